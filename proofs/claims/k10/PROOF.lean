import PyProof.Rows.All
import Wide.All
import OpenK.AllK
import Wide.FinOn
import HandS.ForMost
import HandS.Exc
import HandS.TryOnly
import HandS.ExcOwn
import HandS.WordsExc
import HandS.IsInst
import HandS.Style
import HandS.TupMul
import HandS.TupAny
import HandS.DictComp
import HandS.Wide
import HandS.ExcCtx
import HandS.HotCalls
import HandS.ExcIs
import KE.KeyNested
import HandS.More
import HandS.Set
import HandS.SetFor
import HandS.Strs
import PyProof.Rows.SortShellAny
import HandS.TupLen
import HandS.Conv
import HandS.SortInts
import HandS.SortKw
import HandS.Flow
import KE.DatumOrd
import KE.SortData
import KE.KUnpack
import KE.IntTextLaws
import KE.KIntText
import PyProof.Rows.StrSplitJoin
import PyProof.Rows.StrSplitCount
import PySem.Challenge.RW_somenumber_k10_notes
set_option Elab.async false
set_option linter.all false
set_option maxRecDepth 100000
set_option maxHeartbeats 2000000
namespace Pf
open PySem L2

/-! ## data -/
inductive T where
  | non | bl (b : Bool) | int (i : Int) | str (s : Str) | tup (xs : List T)
inductive D where
  | t (x : T) | lst (xs : List T) | dct (kvs : List (Str × Int)) | scr (ns : List Int) | sn (w : World) (ks : List T) | pr (x : T) (xs : List T)
inductive R (α : Type) where
  | ok (a : α) | raise (c : Nat) | stuck
def R.bind {α β : Type} : R α → (α → R β) → R β
  | .ok a, f => f a
  | .raise c, _ => .raise c
  | .stuck, _ => .stuck
instance : Monad R where
  pure := R.ok
  bind := R.bind
@[simp] theorem R.ok_bind {α β : Type} (a : α) (f : α → R β) : (R.ok a >>= f) = f a := rfl
@[simp] theorem R.raise_bind {α β : Type} (c : Nat) (f : α → R β) : ((R.raise c : R α) >>= f) = R.raise c := rfl
@[simp] theorem R.stuck_bind {α β : Type} (f : α → R β) : ((R.stuck : R α) >>= f) = R.stuck := rfl
theorem R.pure_bind {α β : Type} (a : α) (f : α → R β) : (R.ok a >>= f) = f a := rfl
theorem R.bind_ok {α β : Type} (a : α) (f : α → R β) : R.bind (.ok a) f = f a := rfl


/-! ### keys of a dict that are tuples, nested -/
mutual
def keyK : T → NestedKey
  | .non => .none
  | .bl _ => .none
  | .int i => .num i
  | .str s => .text s
  | .tup xs => .tup (keyKs xs)
def keyKs : List T → List NestedKey
  | [] => []
  | x :: xs => keyK x :: keyKs xs
end
mutual
def keyN : Nat → T → Bool
  | _, .non => false
  | _, .bl _ => false
  | _, .int _ => true
  | _, .str _ => true
  | 0, .tup _ => false
  | n + 1, .tup xs => keyNs n xs
def keyNs : Nat → List T → Bool
  | _, [] => true
  | n, x :: xs => keyN n x && keyNs n xs
end
def keyT : T → Bool
  | .tup xs => keyN 8 (.tup xs)
  | _ => false
mutual
theorem keyN_depth : ∀ (n : Nat) (x : T), keyN n x = true → (keyK x).depth ≤ n
  | _, .non, h => by simp [keyN] at h
  | _, .bl _, h => by simp [keyN] at h
  | n, .int _, h => by simp [keyK, NestedKey.depth]
  | n, .str _, h => by simp [keyK, NestedKey.depth]
  | 0, .tup _, h => by simp [keyN] at h
  | n + 1, .tup xs, h => by
    simp only [keyN] at h
    have := keyNs_depth n xs h
    simp only [keyK, NestedKey.depth]; omega
theorem keyNs_depth : ∀ (n : Nat) (xs : List T), keyNs n xs = true → NestedKey.depthAll (keyKs xs) ≤ n
  | n, [], h => by simp [keyKs, NestedKey.depthAll]
  | n, x :: xs, h => by
    simp only [keyNs, Bool.and_eq_true] at h
    have h1 := keyN_depth n x h.1
    have h2 := keyNs_depth n xs h.2
    simp only [keyKs, NestedKey.depthAll]; omega
end
mutual
theorem keyK_inj : ∀ (n m : Nat) (x y : T), keyN n x = true → keyN m y = true → keyK x = keyK y → x = y
  | _, _, .non, _, h, _, _ => by simp [keyN] at h
  | _, _, .bl _, _, h, _, _ => by simp [keyN] at h
  | _, _, .int i, y, _, h2, e => by
    cases y with
    | int j => simp only [keyK, NestedKey.num.injEq] at e; rw [e]
    | non => simp [keyN] at h2
    | bl b => simp [keyN] at h2
    | str s => simp [keyK] at e
    | tup ys => simp [keyK] at e
  | _, _, .str i, y, _, h2, e => by
    cases y with
    | str j => simp only [keyK, NestedKey.text.injEq] at e; rw [e]
    | non => simp [keyN] at h2
    | bl b => simp [keyN] at h2
    | int s => simp [keyK] at e
    | tup ys => simp [keyK] at e
  | 0, _, .tup _, _, h, _, _ => by simp [keyN] at h
  | n + 1, 0, .tup xs, y, h1, h2, e => by
    cases y with
    | tup ys => simp [keyN] at h2
    | non => simp [keyN] at h2
    | bl b => simp [keyN] at h2
    | int j => simp [keyK] at e
    | str j => simp [keyK] at e
  | n + 1, m + 1, .tup xs, y, h1, h2, e => by
    cases y with
    | tup ys =>
      simp only [keyN] at h1 h2
      simp only [keyK, NestedKey.tup.injEq] at e
      rw [keyKs_inj n m xs ys h1 h2 e]
    | non => simp [keyN] at h2
    | bl b => simp [keyN] at h2
    | int j => simp [keyK] at e
    | str j => simp [keyK] at e
theorem keyKs_inj : ∀ (n m : Nat) (xs ys : List T), keyNs n xs = true → keyNs m ys = true → keyKs xs = keyKs ys → xs = ys
  | _, _, [], ys, _, _, e => by
    cases ys with
    | nil => rfl
    | cons y r => simp [keyKs] at e
  | n, m, x :: xs, ys, h1, h2, e => by
    cases ys with
    | nil => simp [keyKs] at e
    | cons y r =>
      simp only [keyNs, Bool.and_eq_true] at h1 h2
      simp only [keyKs, List.cons.injEq] at e
      rw [keyK_inj n m x y h1.1 h2.1 e.1, keyKs_inj n m xs r h1.2 h2.2 e.2]
end
theorem keyT_tup {x : T} (h : keyT x = true) : ∃ xs, x = .tup xs ∧ keyN 8 x = true := by
  cases x with
  | tup xs => exact ⟨xs, rfl, h⟩
  | _ => simp [keyT] at h
theorem keyT_inj {x y : T} (h1 : keyT x = true) (h2 : keyT y = true) (e : keyK x = keyK y) : x = y := by
  obtain ⟨_, _, k1⟩ := keyT_tup h1
  obtain ⟨_, _, k2⟩ := keyT_tup h2
  exact keyK_inj 8 8 x y k1 k2 e
/-- the dict of keys at a, each with True -/
def SeenO (w : World) (a : Addr) (xs : List (NestedKey × Addr)) : HO := .ext fun h => (a == sysModules) = false ∧ ∃ o es ep, h.get? a = some o ∧ o.ExactDict ∧ o.data = .dict es ep ∧ es.toList = xs.map fun q => (⟨NestedKey.hash w q.1, .ref q.2, .bool true⟩ : DictEntry)
def dK (kvs : List (Str × Int)) : List (Key × V) := kvs.map fun p => (Sum.inr p.1, V.int p.2)

/-! ## how values stand for data -/
section
variable (K : PySem.W.Frag) (H : Hp)
mutual
def RT : T → V → Prop
  | .non, v => v = .non
  | .bl b, v => v = .bl b
  | .int i, v => v = .int i
  | .str s, v => v = .str s
  | .tup ds, v => ∃ a xs, v = .ref a ∧ SqT K H a xs ∧ RTs ds xs
def RTs : List T → List V → Prop
  | [], xs => xs = []
  | d :: ds, xs => ∃ v vs, xs = v :: vs ∧ RT d v ∧ RTs ds vs
end
end
section
variable {K : PySem.W.Frag} {H H' F G : Hp}
mutual
theorem RT.mono (h : ∀ a xs, SqT K H a xs → SqT K H' a xs) : ∀ (d : T) (v : V), RT K H d v → RT K H' d v
  | .non, v, r => by unfold RT at r ⊢; exact r
  | .bl b, v, r => by unfold RT at r ⊢; exact r
  | .int i, v, r => by unfold RT at r ⊢; exact r
  | .str s, v, r => by unfold RT at r ⊢; exact r
  | .tup ds, v, r => by
    unfold RT at r ⊢
    obtain ⟨a, xs, e, q, rs⟩ := r
    exact ⟨a, xs, e, h a xs q, RTs.mono h ds xs rs⟩
theorem RTs.mono (h : ∀ a xs, SqT K H a xs → SqT K H' a xs) : ∀ (ds : List T) (vs : List V), RTs K H ds vs → RTs K H' ds vs
  | [], vs, r => by unfold RTs at r ⊢; exact r
  | d :: ds, vs, r => by
    unfold RTs at r ⊢
    obtain ⟨v, ws, e, q, rs⟩ := r
    exact ⟨v, ws, e, RT.mono h d v q, RTs.mono h ds ws rs⟩
end
theorem Same.sqT (e : Same H H') {a : Addr} {xs : List V} (h : SqT K H a xs) : SqT K H' a xs := by
  rcases h with (h | ⟨o, h⟩) | h
  · exact .inl (.inl (e _ _ h))
  · exact .inl (.inr ⟨o, e _ _ h⟩)
  · exact .inr h
theorem RT.same (e : Same H H') {d : T} {v : V} (r : RT K H d v) : RT K H' d v := RT.mono (fun _ _ q => Same.sqT e q) d v r
theorem RTs.same (e : Same H H') {d : List T} {v : List V} (r : RTs K H d v) : RTs K H' d v := RTs.mono (fun _ _ q => Same.sqT e q) d v r
/-- what may be written: not a tuple -/
def NoTup : HO → Prop
  | .lst _ => True
  | .dK _ => True
  | .ext _ => True
  | _ => False
theorem sqT_upd {a b : Addr} {o o' : HO} {xs : List V} (ha : H a = some o) (n : NoTup o) (h : SqT K H b xs) : SqT K (upd H a o') b xs := by
  rcases h with (h | ⟨ob, h⟩) | h
  · refine .inl (.inl ?_)
    rw [upd_ne (fun e => ?_)]; exact h
    subst e; rw [ha] at h; cases h; exact n
  · refine .inl (.inr ⟨ob, ?_⟩)
    rw [upd_ne (fun e => ?_)]; exact h
    subst e; rw [ha] at h; cases h; exact n
  · exact .inr h
theorem RT.upd {a : Addr} {o o' : HO} (ha : H a = some o) (n : NoTup o) {d : T} {v : V} (r : RT K H d v) : RT K (upd H a o') d v := RT.mono (fun _ _ q => sqT_upd ha n q) d v r
theorem RTs.upd {a : Addr} {o o' : HO} (ha : H a = some o) (n : NoTup o) {d : List T} {v : List V} (r : RTs K H d v) : RTs K (upd H a o') d v := RTs.mono (fun _ _ q => sqT_upd ha n q) d v r
theorem same_new {p : Addr} (h : H p = none) (o : HO) : Same H (upd H p o) := fun b u q => by rw [upd_ne (ne_of_none q h)]; exact q
theorem RTs.length : ∀ {ds : List T} {vs : List V}, RTs K H ds vs → vs.length = ds.length
  | [], vs, r => by unfold RTs at r; subst r; rfl
  | d :: ds, vs, r => by
    unfold RTs at r
    obtain ⟨v, ws, rfl, _, rs⟩ := r
    simp [RTs.length rs]
theorem RTs.append : ∀ {ds es : List T} {vs ws : List V}, RTs K H ds vs → RTs K H es ws → RTs K H (ds ++ es) (vs ++ ws)
  | [], es, vs, ws, r, q => by unfold RTs at r; subst r; exact q
  | d :: ds, es, vs, ws, r, q => by
    unfold RTs at r
    obtain ⟨v, us, rfl, r1, rs⟩ := r
    show RTs K H (d :: (ds ++ es)) (v :: (us ++ ws))
    unfold RTs
    exact ⟨v, _, rfl, r1, RTs.append rs q⟩
theorem RTs.nil : RTs K H [] [] := by unfold RTs; rfl
theorem RTs.cons {d : T} {ds : List T} {v : V} {vs : List V} (r : RT K H d v) (rs : RTs K H ds vs) : RTs K H (d :: ds) (v :: vs) := by
  unfold RTs; exact ⟨v, vs, rfl, r, rs⟩
theorem RTs.uncons {d : T} {ds : List T} {vs : List V} (r : RTs K H (d :: ds) vs) : ∃ v ws, vs = v :: ws ∧ RT K H d v ∧ RTs K H ds ws := by
  unfold RTs at r; exact r
theorem RTs.unnil {vs : List V} (r : RTs K H [] vs) : vs = [] := by unfold RTs at r; exact r
theorem RTs.get : ∀ {ds : List T} {vs : List V} {i : Nat} {d : T}, RTs K H ds vs → ds[i]? = some d → ∃ v, vs[i]? = some v ∧ RT K H d v
  | [], _, i, d, _, e => by simp at e
  | d' :: ds, vs, 0, d, r, e => by
    obtain ⟨v, ws, rfl, r1, _⟩ := r.uncons
    simp at e; subst e
    exact ⟨v, rfl, r1⟩
  | d' :: ds, vs, i + 1, d, r, e => by
    obtain ⟨v, ws, rfl, _, rs⟩ := r.uncons
    obtain ⟨u, h1, h2⟩ := RTs.get (i := i) rs (by simpa using e)
    exact ⟨u, by simpa using h1, h2⟩
theorem RTs.getV : ∀ {ds : List T} {vs : List V} {i : Nat} {v : V}, RTs K H ds vs → vs[i]? = some v → ∃ d, ds[i]? = some d ∧ RT K H d v
  | [], vs, i, d, r, e => by rw [r.unnil] at e; simp at e
  | d' :: ds, vs, 0, v, r, e => by
    obtain ⟨w, ws, rfl, r1, _⟩ := r.uncons
    simp at e; subst e
    exact ⟨d', rfl, r1⟩
  | d' :: ds, vs, i + 1, v, r, e => by
    obtain ⟨w, ws, rfl, _, rs⟩ := r.uncons
    obtain ⟨u, h1, h2⟩ := RTs.getV (i := i) rs (by simpa using e)
    exact ⟨u, by simpa using h1, h2⟩
theorem RTs.drop : ∀ {ds : List T} {vs : List V} (n : Nat), RTs K H ds vs → RTs K H (ds.drop n) (vs.drop n)
  | ds, vs, 0, r => by simpa using r
  | [], vs, n + 1, r => by rw [r.unnil]; simpa using RTs.nil
  | d :: ds, vs, n + 1, r => by
    obtain ⟨v, ws, rfl, _, rs⟩ := r.uncons
    simpa using RTs.drop n rs
theorem RTs.take : ∀ {ds : List T} {vs : List V} (n : Nat), RTs K H ds vs → RTs K H (ds.take n) (vs.take n)
  | ds, vs, 0, r => by simpa using RTs.nil
  | [], vs, n + 1, r => by rw [r.unnil]; simpa using RTs.nil
  | d :: ds, vs, n + 1, r => by
    obtain ⟨v, ws, rfl, r1, rs⟩ := r.uncons
    simpa using RTs.cons r1 (RTs.take n rs)
theorem RTs.ints : ∀ {ns : List Int} {vs : List V}, RTs K H (ns.map T.int) vs → vs = ns.map V.int
  | [], vs, r => r.unnil
  | n :: ns, vs, r => by
    obtain ⟨v, ws, rfl, r1, rs⟩ := RTs.uncons (d := T.int n) (ds := ns.map T.int) r
    unfold RT at r1; subst r1
    rw [RTs.ints rs]; rfl
theorem RTs.strs : ∀ {ns : List Str} {vs : List V}, RTs K H (ns.map T.str) vs → vs = ns.map V.str
  | [], vs, r => r.unnil
  | n :: ns, vs, r => by
    obtain ⟨v, ws, rfl, r1, rs⟩ := RTs.uncons (d := T.str n) (ds := ns.map T.str) r
    unfold RT at r1; subst r1
    rw [RTs.strs rs]; rfl
theorem RTs.ofInts : ∀ (ns : List Int), RTs K H (ns.map T.int) (ns.map V.int)
  | [] => RTs.nil
  | n :: ns => RTs.cons (by unfold RT; rfl) (RTs.ofInts ns)
theorem RTs.ofStrs : ∀ (ns : List Str), RTs K H (ns.map T.str) (ns.map V.str)
  | [] => RTs.nil
  | n :: ns => RTs.cons (by unfold RT; rfl) (RTs.ofStrs ns)

structure SeenR (K : PySem.W.Frag) (H : Hp) (ts : List T) (xs : List (NestedKey × Addr)) : Prop where
  keys : xs.map (·.1) = ts.map keyK
  vals : RTs K H ts (xs.map fun q => V.ref q.2)
  ok : ∀ t ∈ ts, keyT t = true
  nd : ts.Nodup
  len : ts.length ≤ 16777216
theorem SeenR.mono {K : PySem.W.Frag} {H H' : Hp} {ts : List T} {xs : List (NestedKey × Addr)} (r : SeenR K H ts xs) (h : ∀ a xs, SqT K H a xs → SqT K H' a xs) : SeenR K H' ts xs :=
  ⟨r.keys, RTs.mono h _ _ r.vals, r.ok, r.nd, r.len⟩
/-- a value whose lists stand in F -/
def RP (K : PySem.W.Frag) (F H : Hp) : D → V → Prop
  | .t x, v => RT K H x v
  | .lst ds, v => ∃ a xs, v = .ref a ∧ F a = some (.lst xs) ∧ RTs K H ds xs
  | .dct kvs, v => ∃ a, v = .ref a ∧ F a = some (.dK (dK kvs))
  | .scr ns, v => ∃ a, v = .ref a ∧ SqL K F a (ns.map V.int)
  | .sn w ts, v => ∃ a xs, v = .ref a ∧ F a = some (SeenO w a xs) ∧ SeenR K H ts xs
  | .pr x ds, v => ∃ a u b xs, v = .ref a ∧ H a = some (.tup [u, .ref b]) ∧ RT K H x u ∧ F b = some (.lst xs) ∧ RTs K H ds xs
abbrev RD (K : PySem.W.Frag) (H : Hp) : D → V → Prop := RP K H H
/-- a value whose list is new as G sees it -/
def RN (K : PySem.W.Frag) (G H : Hp) : D → V → Prop
  | .t x, v => RT K H x v
  | .lst ds, v => ∃ a xs, v = .ref a ∧ G a = none ∧ H a = some (.lst xs) ∧ RTs K H ds xs
  | .dct kvs, v => ∃ a, v = .ref a ∧ G a = none ∧ H a = some (.dK (dK kvs))
  | .sn w ts, v => ∃ a xs, v = .ref a ∧ G a = none ∧ H a = some (SeenO w a xs) ∧ SeenR K H ts xs
  | .pr x ds, v => ∃ a u b xs, v = .ref a ∧ H a = some (.tup [u, .ref b]) ∧ RT K H x u ∧ G b = none ∧ H b = some (.lst xs) ∧ RTs K H ds xs
  | .scr _, _ => False
/-- the object that a slot's holder may write to -/
def Ad (H : Hp) : D → V → Addr → Prop
  | .t _, _, _ => False
  | .pr _ _, v, b => ∃ a u, v = .ref a ∧ H a = some (.tup [u, .ref b])
  | _, v, b => v = .ref b
theorem RP.same {d : D} {v : V} (e : Same H H') (r : RP K F H d v) : RP K F H' d v := by
  cases d with
  | t x => exact RT.same e r
  | lst ds => obtain ⟨a, xs, h1, h2, h3⟩ := r; exact ⟨a, xs, h1, h2, h3.same e⟩
  | dct kvs => exact r
  | scr ns => exact r
  | sn w ts => obtain ⟨a, xs, h1, h2, h3⟩ := r; exact ⟨a, xs, h1, h2, h3.mono fun _ _ q => Same.sqT e q⟩
  | pr x ds => obtain ⟨a, u, b, xs, h1, h2, h3, h4, h5⟩ := r; exact ⟨a, u, b, xs, h1, e _ _ h2, RT.same e h3, h4, h5.same e⟩
theorem RP.grow {d : D} {v : V} (e : Same F G) (r : RP K F H d v) : RP K G H d v := by
  cases d with
  | t x => exact r
  | lst ds => obtain ⟨a, xs, h1, h2, h3⟩ := r; exact ⟨a, xs, h1, e _ _ h2, h3⟩
  | dct kvs => obtain ⟨a, h1, h2⟩ := r; exact ⟨a, h1, e _ _ h2⟩
  | scr ns => obtain ⟨a, h1, h2⟩ := r; exact ⟨a, h1, e.seq h2⟩
  | sn w ts => obtain ⟨a, xs, h1, h2, h3⟩ := r; exact ⟨a, xs, h1, e _ _ h2, h3⟩
  | pr x ds => obtain ⟨a, u, b, xs, h1, h2, h3, h4, h5⟩ := r; exact ⟨a, u, b, xs, h1, h2, h3, e _ _ h4, h5⟩
theorem RD.same {d : D} {v : V} (e : Same H H') (r : RD K H d v) : RD K H' d v := (RP.same e r).grow e
theorem RN.rd {d : D} {v : V} (r : RN K G H d v) : RD K H d v := by
  cases d with
  | t x => exact r
  | lst ds => obtain ⟨a, xs, h1, _, h2, h3⟩ := r; exact ⟨a, xs, h1, h2, h3⟩
  | dct kvs => obtain ⟨a, h1, _, h2⟩ := r; exact ⟨a, h1, h2⟩
  | scr ns => exact r.elim
  | sn w ts => obtain ⟨a, xs, h1, _, h2, h3⟩ := r; exact ⟨a, xs, h1, h2, h3⟩
  | pr x ds => obtain ⟨a, u, b, xs, h1, h2, h3, _, h4, h5⟩ := r; exact ⟨a, u, b, xs, h1, h2, h3, h4, h5⟩
theorem RN.less {d : D} {v : V} (e : Same F G) (r : RN K G H d v) : RN K F H d v := by
  cases d with
  | t x => exact r
  | lst ds => obtain ⟨a, xs, h1, h0, h2, h3⟩ := r; exact ⟨a, xs, h1, e.free h0, h2, h3⟩
  | dct kvs => obtain ⟨a, h1, h0, h2⟩ := r; exact ⟨a, h1, e.free h0, h2⟩
  | scr ns => exact r.elim
  | sn w ts => obtain ⟨a, xs, h1, h0, h2, h3⟩ := r; exact ⟨a, xs, h1, e.free h0, h2, h3⟩
  | pr x ds => obtain ⟨a, u, b, xs, h1, h2, h3, h0, h4, h5⟩ := r; exact ⟨a, u, b, xs, h1, h2, h3, e.free h0, h4, h5⟩
theorem RN.same {d : D} {v : V} (e : Same H H') (r : RN K G H d v) : RN K G H' d v := by
  cases d with
  | t x => exact RT.same e r
  | lst ds => obtain ⟨a, xs, h1, h0, h2, h3⟩ := r; exact ⟨a, xs, h1, h0, e _ _ h2, h3.same e⟩
  | dct kvs => obtain ⟨a, h1, h0, h2⟩ := r; exact ⟨a, h1, h0, e _ _ h2⟩
  | scr ns => exact r.elim
  | sn w ts => obtain ⟨a, xs, h1, h0, h2, h3⟩ := r; exact ⟨a, xs, h1, h0, e _ _ h2, h3.mono fun _ _ q => Same.sqT e q⟩
  | pr x ds => obtain ⟨a, u, b, xs, h1, h2, h3, h0, h4, h5⟩ := r; exact ⟨a, u, b, xs, h1, e _ _ h2, RT.same e h3, h0, e _ _ h4, h5.same e⟩
theorem Ad.back {d : D} {v : V} {c : Addr} (e : Same H H') (r : RN K G H d v) (h : Ad H' d v c) : Ad H d v c := by
  cases d with
  | pr x ds =>
    obtain ⟨a, u, b, xs, h1, h2, h3, h0, h4, h5⟩ := r
    obtain ⟨a', u', g1, g2⟩ := h
    rw [h1] at g1; cases g1
    rw [e _ _ h2] at g2; cases g2
    exact ⟨a, u, h1, h2⟩
  | t x => exact h
  | _ => exact h
theorem Ad.old {d : D} {v : V} {c : Addr} (r : RN K G H d v) (h : Ad H d v c) : G c = none ∧ ∃ o, H c = some o ∧ NoTup o := by
  cases d with
  | pr x ds =>
    obtain ⟨a, u, b, xs, h1, h2, h3, h0, h4, h5⟩ := r
    obtain ⟨a', u', g1, g2⟩ := h
    rw [h1] at g1; cases g1
    rw [h2] at g2; cases g2
    exact ⟨h0, _, h4, trivial⟩
  | t x => exact h.elim
  | lst ds => obtain ⟨a, xs, h1, h0, h2, h3⟩ := r; rw [h1] at h; cases h; exact ⟨h0, _, h2, trivial⟩
  | dct kvs => obtain ⟨a, h1, h0, h2⟩ := r; rw [h1] at h; cases h; exact ⟨h0, _, h2, trivial⟩
  | scr ns => exact r.elim
  | sn w ts => obtain ⟨a, xs, h1, h0, h2, h3⟩ := r; rw [h1] at h; cases h; exact ⟨h0, _, h2, trivial⟩
end

/-! ## the frame -/
inductive Sl where
  | un | d (x : D) (own : Bool) | raw (v : V)
abbrev Ev := List Sl
structure ER (K : PySem.W.Frag) (F : Hp) (σ : St) (H : Hp) (ρ : Ev) : Prop where
  same : Same F H
  slot : ∀ (i : Nat) x o, ρ[i]? = some (.d x o) → ∃ v, σ[i]? = some (some v) ∧ (o = true → RN K F H x v) ∧ (o = false → RP K F H x v)
  apart : ∀ (i j : Nat) x y v u b, ρ[i]? = some (.d x true) → ρ[j]? = some (.d y true) → σ[i]? = some (some v) → σ[j]? = some (some u) → Ad H x v b → Ad H y u b → i = j
  len : σ.length = ρ.length
  raw : ∀ (i : Nat) v, ρ[i]? = some (.raw v) → σ[i]? = some (some v)
theorem raw_same {ρ : Ev} {σ : St} {i : Nat} {s : Sl} (hr : ∀ (j : Nat) v, ρ[j]? = some (.raw v) → σ[j]? = some (some v)) (hs : ∀ v, s ≠ .raw v) (j : Nat) (v : V) (h : (ρ.set i s)[j]? = some (.raw v)) : σ[j]? = some (some v) := by
  by_cases e : i = j
  · subst e
    by_cases hi : i < ρ.length
    · rw [List.getElem?_set_self hi] at h; exact absurd (Option.some.inj h) (hs v)
    · rw [List.getElem?_eq_none (by simpa using hi)] at h; cases h
  · rw [List.getElem?_set_ne e] at h; exact hr j v h
theorem raw_both {ρ : Ev} {σ : St} {i : Nat} {s : Sl} {o : Option V} (hr : ∀ (j : Nat) v, ρ[j]? = some (.raw v) → σ[j]? = some (some v)) (hs : ∀ v, s ≠ .raw v) (j : Nat) (v : V) (h : (ρ.set i s)[j]? = some (.raw v)) : (σ.set i o)[j]? = some (some v) := by
  by_cases e : i = j
  · subst e
    by_cases hi : i < ρ.length
    · rw [List.getElem?_set_self hi] at h; exact absurd (Option.some.inj h) (hs v)
    · rw [List.getElem?_eq_none (by simpa using hi)] at h; cases h
  · rw [List.getElem?_set_ne e] at h ⊢; exact hr j v h
section
variable {K : PySem.W.Frag} {F H H' : Hp} {σ : St} {ρ : Ev}
theorem ER.mono (er : ER K F σ H ρ) (e : Same H H') : ER K F σ H' ρ :=
  ⟨er.same.trans e, fun i x o h => by
    obtain ⟨v, h1, h2, h3⟩ := er.slot i x o h
    exact ⟨v, h1, fun q => (h2 q).same e, fun q => (h3 q).same e⟩, fun i j x y v u b h1 h2 g1 g2 a1 a2 => by
    obtain ⟨v', q1, q2, _⟩ := er.slot i x true h1
    obtain ⟨u', p1, p2, _⟩ := er.slot j y true h2
    rw [g1] at q1; cases q1
    rw [g2] at p1; cases p1
    exact er.apart i j x y v u b h1 h2 g1 g2 (Ad.back e (q2 rfl) a1) (Ad.back e (p2 rfl) a2), er.len, er.raw⟩
theorem ER.rd (er : ER K F σ H ρ) {i : Nat} {x : D} {o : Bool} (h : ρ[i]? = some (.d x o)) : ∃ v, σ[i]? = some (some v) ∧ RD K H x v := by
  obtain ⟨v, h1, h2, h3⟩ := er.slot i x o h
  cases o with
  | true => exact ⟨v, h1, (h2 rfl).rd⟩
  | false => exact ⟨v, h1, (h3 rfl).grow er.same⟩
/-- a slot is stored: a new value -/
theorem ER.store (er : ER K F σ H ρ) {i : Nat} {x : D} {v : V} (e : Same H H') (r : RN K H H' x v) : ER K F (σ.set i (some v)) H' (ρ.set i (.d x true)) := by
  have er' := er.mono e
  refine ⟨er'.same, fun j y o h => ?_, fun j k y z v1 v2 a h1 h2 g1 g2 a1 a2 => ?_, by simp [er.len], raw_both er.raw (fun v e => by cases e)⟩
  · by_cases hj : i = j
    · subst hj
      by_cases hi : i < ρ.length
      · rw [List.getElem?_set_self hi] at h
        cases h
        exact ⟨v, List.getElem?_set_self (by rw [er.len]; exact hi), fun _ => r.less er.same, fun q => by cases q⟩
      · rw [List.getElem?_eq_none (by simpa using hi)] at h; cases h
    · rw [List.getElem?_set_ne hj] at h ⊢
      exact er'.slot j y o h
  · have key : ∀ (k : Nat) z u c, ρ[k]? = some (.d z true) → σ[k]? = some (some u) → Ad H' z u c → Ad H' x v c → False := by
      intro k z u c h2 g2 a2 a1
      obtain ⟨u', q1, q2, _⟩ := er.slot k z true h2
      rw [g2] at q1; cases q1
      obtain ⟨_, o, ho, _⟩ := Ad.old (q2 rfl) (Ad.back e (q2 rfl) a2)
      have := (Ad.old r a1).1
      rw [ho] at this; cases this
    by_cases hj : i = j
    · subst hj
      by_cases hk : i = k
      · exact hk
      · exfalso
        rw [List.getElem?_set_ne hk] at h2 g2
        by_cases hi : i < ρ.length
        · rw [List.getElem?_set_self hi] at h1
          rw [List.getElem?_set_self (by rw [er.len]; exact hi)] at g1
          cases h1
          injection g1 with g1; injection g1 with g1
          subst g1
          exact key k z _ a h2 g2 a2 a1
        · rw [List.getElem?_eq_none (by simpa using hi)] at h1; cases h1
    · rw [List.getElem?_set_ne hj] at h1 g1
      by_cases hk : i = k
      · exfalso
        subst hk
        by_cases hi : i < ρ.length
        · rw [List.getElem?_set_self hi] at h2
          rw [List.getElem?_set_self (by rw [er.len]; exact hi)] at g2
          cases h2
          injection g2 with g2; injection g2 with g2
          subst g2
          exact key j y _ a h1 g1 a1 a2
        · rw [List.getElem?_eq_none (by simpa using hi)] at h2; cases h2
      · rw [List.getElem?_set_ne hk] at h2 g2
        exact er'.apart j k y z v1 v2 a h1 h2 g1 g2 a1 a2
/-- the list of an own slot is written -/
theorem ER.wrote (er : ER K F σ H ρ) {i : Nat} {x y : D} {a : Addr} {o o' : HO} (h : ρ[i]? = some (.d x true)) (nx : ∀ z, x ≠ .t z) (ha : σ[i]? = some (some (.ref a))) (hF : F a = none) (ho : H a = some o) (n : NoTup o)
    (r : RN K F (upd H a o') y (.ref a)) (np : ∀ z zs, x ≠ .pr z zs := by intro _ _ e; cases e) (mp : ∀ z zs, y ≠ .pr z zs := by intro _ _ e; cases e) : ER K F σ (upd H a o') (ρ.set i (.d y true)) := by
  have hi : i < ρ.length := (List.getElem?_eq_some_iff.mp h).1
  have ax : Ad H x (.ref a) a := by
    cases x with
    | t z => exact (nx z rfl).elim
    | pr z zs => exact (np z zs rfl).elim
    | _ => rfl
  have back : ∀ (j : Nat) z u c, i ≠ j → ρ[j]? = some (.d z true) → σ[j]? = some (some u) → Ad (upd H a o') z u c → Ad H z u c := by
    intro j z u c hij hj gu ad
    obtain ⟨u', q1, q2, _⟩ := er.slot j z true hj
    rw [gu] at q1; cases q1
    cases z with
    | pr z zs =>
      obtain ⟨a1, w, b, xs, e1, e2, e3, e4, e5, e6⟩ := q2 rfl
      obtain ⟨a2, w2, f1, f2⟩ := ad
      rw [e1] at f1; cases f1
      have hne : a1 ≠ a := fun e => by subst e; rw [ho] at e2; cases e2; exact n
      rw [upd_ne hne] at f2
      exact ⟨a1, w2, e1, f2⟩
    | t z => exact ad
    | _ => exact ad
  refine ⟨fun b u q => ?_, fun j z ow hj => ?_, fun j k z z' v1 v2 b h1 h2 g1 g2 a1 a2 => ?_, by simpa using er.len, raw_same er.raw (fun v e => by cases e)⟩
  · rw [upd_ne (ne_of_none q hF)]; exact er.same b u q
  · by_cases hij : i = j
    · subst hij
      rw [List.getElem?_set_self hi] at hj
      cases hj
      exact ⟨.ref a, ha, fun _ => r, fun q => by cases q⟩
    · rw [List.getElem?_set_ne hij] at hj
      obtain ⟨v, q1, q2, q3⟩ := er.slot j z ow hj
      refine ⟨v, q1, fun e => ?_, fun e => ?_⟩
      · subst e
        have r1 := q2 rfl
        cases z with
        | t w => exact RT.upd ho n r1
        | lst ds =>
          obtain ⟨b, xs, e1, e2, e3, e4⟩ := r1
          refine ⟨b, xs, e1, e2, ?_, e4.upd ho n⟩
          rw [upd_ne (fun e => ?_)]; exact e3
          subst e; subst e1
          exact hij (er.apart i j x _ _ _ b h hj ha q1 ax rfl)
        | dct kvs =>
          obtain ⟨b, e1, e2, e3⟩ := r1
          refine ⟨b, e1, e2, ?_⟩
          rw [upd_ne (fun e => ?_)]; exact e3
          subst e; subst e1
          exact hij (er.apart i j x _ _ _ b h hj ha q1 ax rfl)
        | scr ns => exact r1
        | sn w ts =>
          obtain ⟨b, xs, e1, e2, e3, e4⟩ := r1
          refine ⟨b, xs, e1, e2, ?_, e4.mono fun _ _ q => sqT_upd ho n q⟩
          rw [upd_ne (fun e => ?_)]; exact e3
          subst e; subst e1
          exact hij (er.apart i j x _ _ _ b h hj ha q1 ax rfl)
        | pr w ts =>
          obtain ⟨b0, u, b, xs, e1, e2, e3, e4, e5, e6⟩ := r1
          refine ⟨b0, u, b, xs, e1, ?_, RT.upd ho n e3, e4, ?_, e6.upd ho n⟩
          · rw [upd_ne (fun e => ?_)]; exact e2
            subst e; rw [ho] at e2; cases e2; exact n
          · rw [upd_ne (fun e => ?_)]; exact e5
            subst e
            exact hij (er.apart i j x _ _ _ b h hj ha q1 ax ⟨b0, u, e1, e2⟩)
      · subst e
        have r1 := q3 rfl
        cases z with
        | t w => exact RT.upd ho n r1
        | lst ds => obtain ⟨b, xs, e1, e2, e3⟩ := r1; exact ⟨b, xs, e1, e2, e3.upd ho n⟩
        | dct kvs => exact r1
        | scr ns => exact r1
        | sn w ts => obtain ⟨b, xs, e1, e2, e3⟩ := r1; exact ⟨b, xs, e1, e2, e3.mono fun _ _ q => sqT_upd ho n q⟩
        | pr w ts =>
          obtain ⟨b0, u, b, xs, e1, e2, e3, e4, e5⟩ := r1
          refine ⟨b0, u, b, xs, e1, ?_, RT.upd ho n e3, e4, e5.upd ho n⟩
          rw [upd_ne (fun e => ?_)]; exact e2
          subst e; rw [ho] at e2; cases e2; exact n
  · have aux : ∀ (k : Nat) z' u, (ρ.set i (.d y true))[k]? = some (.d z' true) → σ[k]? = some (some u) → Ad (upd H a o') z' u b → ∃ z2, ρ[k]? = some (.d z2 true) ∧ Ad H z2 u b := by
      intro k z' u h2 g2 a2
      by_cases hk : i = k
      · subst hk
        rw [List.getElem?_set_self hi] at h2
        cases h2
        rw [ha] at g2; cases g2
        refine ⟨x, h, ?_⟩
        have eb : b = a := by
          cases y with
          | t z => exact a2.elim
          | pr z zs => exact (mp z zs rfl).elim
          | _ => cases a2; rfl
        subst eb; exact ax
      · rw [List.getElem?_set_ne hk] at h2; exact ⟨z', h2, back k z' u b hk h2 g2 a2⟩
    obtain ⟨z1, p1, p2⟩ := aux j z v1 h1 g1 a1
    obtain ⟨z2, q1, q2⟩ := aux k z' v2 h2 g2 a2
    exact er.apart j k z1 z2 v1 v2 b p1 q1 g1 g2 p2 q2
end

/-! ## what is wanted of an answer -/
section
variable (EX : XK) (C : Nat → Addr)
def Wp {α : Type} (H : Hp) (r : R α) (k : α → Prop) : Prop := match r with
  | .ok a => k a
  | .raise c => ∀ H', Same H H' → EX (.ref (C c)) none H'
  | .stuck => False
end
section
variable {EX : XK} {C : Nat → Addr} {H H' : Hp} {α β : Type}
theorem Wp.bind {r : R α} {g : α → R β} {k : β → Prop} (w : Wp EX C H (r >>= g) k) : Wp EX C H r (fun a => Wp EX C H (g a) k) := by
  cases r <;> exact w
theorem Wp.mono {r : R α} {k k' : α → Prop} (w : Wp EX C H r k) (e : Same H H') (h : ∀ a, r = .ok a → k a → k' a) : Wp EX C H' r k' := by
  cases r with
  | ok a => exact h a rfl w
  | raise c => exact fun H2 e2 => w H2 (e.trans e2)
  | stuck => exact w
theorem Wp.imp {r : R α} {k k' : α → Prop} (w : Wp EX C H r k) (h : ∀ a, r = .ok a → k a → k' a) : Wp EX C H r k' := w.mono (Same.refl H) h
end
abbrev WD (K : PySem.W.Frag) (EX : XK) (C : Nat → Addr) (H : Hp) (r : R D) (Q : VK) : Prop := Wp EX C H r fun d => ∀ v H', Same H H' → RD K H' d v → Q v H'
abbrev WN (K : PySem.W.Frag) (EX : XK) (C : Nat → Addr) (H : Hp) (r : R D) (Q : VK) : Prop := Wp EX C H r fun d => ∀ v H', Same H H' → RN K H H' d v → Q v H'
abbrev WB (EX : XK) (C : Nat → Addr) (H : Hp) (r : R Bool) (Q : Bool → Hp → Prop) : Prop := Wp EX C H r fun b => ∀ H', Same H H' → Q b H'
section
variable {K : PySem.W.Frag} {EX : XK} {C : Nat → Addr} {H H' : Hp}
theorem WD.move {r : R D} {Q : VK} (w : WD K EX C H r Q) (e : Same H H') : WD K EX C H' r Q := Wp.mono w e fun _ _ k v H2 e2 => k v H2 (e.trans e2)
theorem WN.move {r : R D} {Q : VK} (w : WN K EX C H r Q) (e : Same H H') : WN K EX C H' r Q := Wp.mono w e fun _ _ k v H2 e2 q => k v H2 (e.trans e2) (q.less e)
theorem WB.move {r : R Bool} {Q : Bool → Hp → Prop} (w : WB EX C H r Q) (e : Same H H') : WB EX C H' r Q := Wp.mono w e fun _ _ k H2 e2 => k H2 (e.trans e2)
end

/-! ## judgements -/
/-- an expression; its value may be a list that stands already -/
def SE (X : Cx) (EX : XK) (C : Nat → Addr) (e : Expr) (f : Ev → R D) : Prop :=
  ∃ te, PE X e te ∧ ∀ F σ H ρ Q, ER X.K F σ H ρ → WD X.K EX C H (f ρ) Q → te σ H Q
/-- .. its value is new -/
def SN (X : Cx) (EX : XK) (C : Nat → Addr) (e : Expr) (f : Ev → R D) : Prop :=
  ∃ te, PE X e te ∧ ∀ F σ H ρ Q, ER X.K F σ H ρ → WN X.K EX C H (f ρ) Q → te σ H Q
def ST (X : Cx) (EX : XK) (C : Nat → Addr) (e : Expr) (f : Ev → R Bool) : Prop :=
  ∃ te, PT X e te ∧ ∀ F σ H ρ Q, ER X.K F σ H ρ → WB EX C H (f ρ) Q → te σ H Q
def RDs (K : PySem.W.Frag) (H : Hp) : List D → List V → Prop
  | [], xs => xs = []
  | d :: ds, xs => ∃ v vs, xs = v :: vs ∧ RD K H d v ∧ RDs K H ds vs
theorem RDs.same {K : PySem.W.Frag} {H H' : Hp} (e : Same H H') : ∀ {ds : List D} {vs : List V}, RDs K H ds vs → RDs K H' ds vs
  | [], vs, r => r
  | d :: ds, vs, r => by
    obtain ⟨v, ws, h1, h2, h3⟩ := r
    exact ⟨v, ws, h1, RD.same e h2, RDs.same e h3⟩
theorem RDs.length {K : PySem.W.Frag} {H : Hp} : ∀ {ds : List D} {vs : List V}, RDs K H ds vs → vs.length = ds.length
  | [], vs, r => by subst r; rfl
  | d :: ds, vs, r => by
    obtain ⟨v, ws, rfl, h2, h3⟩ := r
    simp [RDs.length h3]
abbrev WA (K : PySem.W.Frag) (EX : XK) (C : Nat → Addr) (H : Hp) (r : R (List D)) (Q : List V → Hp → Prop) : Prop := Wp EX C H r fun ds => ∀ vs H', Same H H' → RDs K H' ds vs → Q vs H'
def SA (X : Cx) (EX : XK) (C : Nat → Addr) (es : List Expr) (f : Ev → R (List D)) : Prop :=
  (∃ ta, PA X es ta ∧ ∀ F σ H ρ Q, ER X.K F σ H ρ → WA X.K EX C H (f ρ) Q → ta σ H Q) ∧ ∀ ρ ds, f ρ = .ok ds → ds.length = es.length

section
variable {X : Cx} {EX : XK} {C : Nat → Addr} {e a b : Expr} {f g : Ev → R D} {pos : Pos}
theorem SN.toE (h : SN X EX C e f) : SE X EX C e f := by
  obtain ⟨te, p, q⟩ := h
  exact ⟨te, p, fun F σ H ρ Q er w => q F σ H ρ Q er (w.imp fun d _ k v H' s r => k v H' s r.rd)⟩
def asT : D → R D
  | .t x => .ok (.t x)
  | _ => .stuck
theorem SE.toN (h : SE X EX C e f) : SN X EX C e (fun ρ => f ρ >>= asT) := by
  obtain ⟨te, p, q⟩ := h
  refine ⟨te, p, fun F σ H ρ Q er w => q F σ H ρ Q er (w.bind.imp fun d _ k v H' s r => ?_)⟩
  cases d with
  | t x => exact k v H' s r
  | _ => exact k.elim
/-! ### names, constants -/
def rdE (i : Nat) (ρ : Ev) : R D := match ρ[i]? with
  | some (.d x _) => .ok x
  | _ => .stuck
def rdT (i : Nat) (ρ : Ev) : R D := match ρ[i]? with
  | some (.d (.t x) _) => .ok (.t x)
  | _ => .stuck
theorem se_var {i : Nat} {x : Str} (p : PE X (.Name x pos) (tVar i)) : SE X EX C (.Name x pos) (rdE i) := by
  refine ⟨_, p, fun F σ H ρ Q er w => ?_⟩
  unfold rdE at w
  split at w
  · rename_i d o h
    obtain ⟨v, h1, h2⟩ := er.rd h
    exact ⟨v, h1, w v H (Same.refl H) h2⟩
  · exact w.elim
theorem sn_var {i : Nat} {x : Str} (p : PE X (.Name x pos) (tVar i)) : SN X EX C (.Name x pos) (rdT i) := by
  refine ⟨_, p, fun F σ H ρ Q er w => ?_⟩
  unfold rdT at w
  split at w
  · rename_i d o h
    obtain ⟨v, h1, h2⟩ := er.rd h
    exact ⟨v, h1, w v H (Same.refl H) h2⟩
  · exact w.elim
theorem sn_int {i j} : SN X EX C (.Constant (.int i) j pos) (fun _ => .ok (.t (.int i))) := ⟨_, pe_int, fun F σ H ρ Q er w => w (.int i) H (Same.refl H) (by show RT _ _ _ _; unfold RT; rfl)⟩
theorem sn_str {i j} : SN X EX C (.Constant (.str i) j pos) (fun _ => .ok (.t (.str i))) := ⟨_, pe_str, fun F σ H ρ Q er w => w (.str i) H (Same.refl H) (by show RT _ _ _ _; unfold RT; rfl)⟩
theorem sn_bl {i j} : SN X EX C (.Constant (.bool i) j pos) (fun _ => .ok (.t (.bl i))) := ⟨_, pe_bl, fun F σ H ρ Q er w => w (.bl i) H (Same.refl H) (by show RT _ _ _ _; unfold RT; rfl)⟩
theorem sn_non {j} : SN X EX C (.Constant .none j pos) (fun _ => .ok (.t .non)) := ⟨_, pe_non, fun F σ H ρ Q er w => w .non H (Same.refl H) (by show RT _ _ _ _; unfold RT; rfl)⟩
end
end Pf

set_option Elab.async false
set_option linter.all false
set_option maxRecDepth 100000
set_option maxHeartbeats 2000000
namespace Pf
open PySem L2

/-! ## two-place operations by values -/
section
variable (X : Cx) (EX : XK) (C : Nat → Addr)
def Impl2 (op2 : D → D → R D) (r : R2) : Prop :=
  ∀ d1 d2 v1 v2 H Q, RD X.K H d1 v1 → RD X.K H d2 v2 → WN X.K EX C H (op2 d1 d2) Q → r v1 v2 H Q
def Impl1 (op1 : List D → R D) (r : List V → Hp → VK → Prop) : Prop :=
  ∀ ds vs H Q, RDs X.K H ds vs → WN X.K EX C H (op1 ds) Q → r vs H Q
end
section
variable {X : Cx} {EX : XK} {C : Nat → Addr} {a b : Expr} {f g : Ev → R D} {pos : Pos}
theorem se_two {t : TE → TE → TE} {r : R2} {op2 : D → D → R D} {e : Expr} (ht : ∀ ta tb, t ta tb = tOp r ta tb) (hp : ∀ ta tb, PE X a ta → PE X b tb → PE X e (t ta tb)) (hi : Impl2 X EX C op2 r)
    (ha : SE X EX C a f) (hb : SE X EX C b g) : SN X EX C e (fun ρ => f ρ >>= fun x => g ρ >>= fun y => op2 x y) := by
  obtain ⟨ta, pa, qa⟩ := ha
  obtain ⟨tb, pb, qb⟩ := hb
  refine ⟨_, hp ta tb pa pb, fun F σ H ρ Q er w => ?_⟩
  rw [ht]
  refine qa F σ H ρ _ er (w.bind.imp fun d1 _ k v1 H1 s1 r1 => ?_)
  refine qb F σ H1 ρ _ (er.mono s1) ((Wp.bind k).mono s1 fun d2 _ k2 v2 H2 s2 r2 => ?_)
  exact hi d1 d2 v1 v2 H2 Q (r1.same s2) r2 (WN.move k2 (s1.trans s2))
theorem sn_op {op : Operator} {r : R2} {op2 : D → D → R D} (ho : OpR X (binaryOp op) r) (hi : Impl2 X EX C op2 r) (ha : SE X EX C a f) (hb : SE X EX C b g) :
    SN X EX C (.BinOp a op b pos) (fun ρ => f ρ >>= fun x => g ρ >>= fun y => op2 x y) := se_two (fun _ _ => rfl) (fun _ _ p q => pe_op ho p q) hi ha hb
theorem sn_cmp {op : CmpOp} {r : R2} {op2 : D → D → R D} (ho : OpR X (compareOp op) r) (hi : Impl2 X EX C op2 r) (hm : behindInMarks op b = false) (ha : SE X EX C a f) (hb : SE X EX C b g) :
    SN X EX C (.Compare a [op] [b] pos) (fun ρ => f ρ >>= fun x => g ρ >>= fun y => op2 x y) := se_two (fun _ _ => rfl) (fun _ _ p q => pe_cmpR ho p q hm) hi ha hb
theorem sn_ix {r : R2} {op2 : D → D → R D} (ho : IxR X r) (hi : Impl2 X EX C op2 r) (hs : PlainIx b) (ha : SE X EX C a f) (hb : SE X EX C b g) :
    SN X EX C (.Subscript a b pos) (fun ρ => f ρ >>= fun x => g ρ >>= fun y => op2 x y) := se_two (fun _ _ => rfl) (fun _ _ p q => pe_ix ho p q hs) hi ha hb

theorem rt_int {K : PySem.W.Frag} {H : Hp} {i : Int} {v : V} (r : RD K H (.t (.int i)) v) : v = .int i := by
  have q : RT K H (.int i) v := r; unfold RT at q; exact q
theorem rt_str {K : PySem.W.Frag} {H : Hp} {i : Str} {v : V} (r : RD K H (.t (.str i)) v) : v = .str i := by
  have q : RT K H (.str i) v := r; unfold RT at q; exact q
theorem rt_bl {K : PySem.W.Frag} {H : Hp} {i : Bool} {v : V} (r : RD K H (.t (.bl i)) v) : v = .bl i := by
  have q : RT K H (.bl i) v := r; unfold RT at q; exact q
theorem rt_non {K : PySem.W.Frag} {H : Hp} {v : V} (r : RD K H (.t .non) v) : v = .non := by
  have q : RT K H .non v := r; unfold RT at q; exact q
theorem rt_tup {K : PySem.W.Frag} {H : Hp} {v : V} {ds : List T} (r : RD K H (.t (.tup ds)) v) : ∃ a xs, v = .ref a ∧ SqT K H a xs ∧ RTs K H ds xs := by
  have q : RT K H (.tup ds) v := r; unfold RT at q; exact q
theorem rn_int {K : PySem.W.Frag} {G H : Hp} {i : Int} : RN K G H (.t (.int i)) (.int i) := by show RT _ _ _ _; unfold RT; rfl
theorem rn_str {K : PySem.W.Frag} {G H : Hp} {i : Str} : RN K G H (.t (.str i)) (.str i) := by show RT _ _ _ _; unfold RT; rfl
theorem rn_bl {K : PySem.W.Frag} {G H : Hp} {i : Bool} : RN K G H (.t (.bl i)) (.bl i) := by show RT _ _ _ _; unfold RT; rfl
theorem rn_non {K : PySem.W.Frag} {G H : Hp} : RN K G H (.t .non) .non := by show RT _ _ _ _; unfold RT; rfl
theorem rn_tup {K : PySem.W.Frag} {G H : Hp} {a : Addr} {ds : List T} {xs : List V} (h : SqT K H a xs) (r : RTs K H ds xs) : RN K G H (.t (.tup ds)) (.ref a) := by
  show RT _ _ _ _; unfold RT; exact ⟨a, xs, rfl, h, r⟩
/-- a new tuple, a new list -/
theorem new_tup {K : PySem.W.Frag} {H : Hp} {p : Addr} {ds : List T} {xs : List V} (hp : H p = none) (r : RTs K H ds xs) : RN K H (upd H p (.tup xs)) (.t (.tup ds)) (.ref p) :=
  rn_tup (SqT.of upd_same) (r.same (same_new hp _))
theorem new_lst {K : PySem.W.Frag} {H : Hp} {p : Addr} {ds : List T} {xs : List V} (hp : H p = none) (r : RTs K H ds xs) : RN K H (upd H p (.lst xs)) (.lst ds) (.ref p) :=
  ⟨p, xs, rfl, hp, upd_same, r.same (same_new hp _)⟩
theorem new_dct {K : PySem.W.Frag} {H : Hp} {p : Addr} {kvs : List (Str × Int)} (hp : H p = none) : RN K H (upd H p (.dK (dK kvs))) (.dct kvs) (.ref p) := ⟨p, rfl, hp, upd_same⟩

/-! ### + -/
def addD : D → D → R D
  | .t (.int i), .t (.int j) => .ok (.t (.int (i + j)))
  | .t (.str i), .t (.str j) => if i.length + j.length ≤ 16777216 then .ok (.t (.str (i ++ j))) else .stuck
  | .t (.tup xs), .t (.tup ys) => if xs.length + ys.length ≤ 16777216 then .ok (.t (.tup (xs ++ ys))) else .stuck
  | .lst xs, .lst ys => if xs.length + ys.length ≤ 16777216 then .ok (.lst (xs ++ ys)) else .stuck
  | _, _ => .stuck
def rStrAdd : R2 := fun x y H Q => ∃ i j, x = .str i ∧ y = .str j ∧ i.length + j.length ≤ sizeLine ∧ Q (.str (i ++ j)) H
def rAddA (K : PySem.W.Frag) : R2 := fun x y H Q => rI0 (fun i j => .int (i + j)) x y H Q ∨ rStrAdd x y H Q ∨ rCat x y H Q ∨ rCatA K x y H Q
theorem op_addA : OpR X (binaryOp .Add) (rAddA X.K) := OpR.or op_add (OpR.or op_add_str (OpR.or op_cat op_catA))
theorem im_add : Impl2 X EX C addD (rAddA X.K) := by
  intro d1 d2 v1 v2 H Q r1 r2 w
  unfold addD at w
  split at w
  · rw [rt_int r1, rt_int r2]
    exact .inl ⟨_, _, rfl, rfl, w _ H (Same.refl H) rn_int⟩
  · rw [rt_str r1, rt_str r2]
    split at w
    · rename_i h
      exact .inr (.inl ⟨_, _, rfl, rfl, by rw [sizeLine_eq]; exact h, w _ H (Same.refl H) rn_str⟩)
    · exact w.elim
  · split at w
    · rename_i h
      obtain ⟨a, xs, rfl, ha, ra⟩ := rt_tup r1
      obtain ⟨b, ys, rfl, hb, rb⟩ := rt_tup r2
      have h1 := ra.length
      have h2 := rb.length
      refine .inr (.inr (.inr ⟨a, b, xs, ys, rfl, rfl, ha, hb, by rw [sizeLine_eq]; omega, fun e => ?_, fun _ e => ?_, fun _ _ p hp => ?_⟩))
      · have e2 : (_ : List T) = [] := List.eq_nil_of_length_eq_zero (by rw [← h1, e]; rfl)
        rw [e2] at w
        exact w _ H (Same.refl H) (rn_tup hb rb)
      · have e2 : (_ : List T) = [] := List.eq_nil_of_length_eq_zero (by rw [← h2, e]; rfl)
        rw [e2, List.append_nil] at w
        exact w _ H (Same.refl H) (rn_tup ha ra)
      · exact w _ _ (same_new hp _) (new_tup hp (ra.append rb))
    · exact w.elim
  · split at w
    · rename_i h
      obtain ⟨a, xs, rfl, ha, ra⟩ := r1
      obtain ⟨b, ys, rfl, hb, rb⟩ := r2
      have h1 := ra.length
      have h2 := rb.length
      exact .inr (.inr (.inl ⟨a, b, xs, ys, rfl, rfl, ha, hb, by rw [sizeLine_eq]; omega, fun p hp => w _ _ (same_new hp _) (new_lst hp (ra.append rb))⟩))
    · exact w.elim
  · exact w.elim
theorem sn_add (ha : SE X EX C a f) (hb : SE X EX C b g) : SN X EX C (.BinOp a .Add b pos) (fun ρ => f ρ >>= fun x => g ρ >>= fun y => addD x y) := sn_op op_addA im_add ha hb

/-! ### -, *, //, %, ** -/
def subD : D → D → R D
  | .t (.int i), .t (.int j) => .ok (.t (.int (i - j)))
  | _, _ => .stuck
theorem im_sub : Impl2 X EX C subD (rI0 fun i j => .int (i - j)) := by
  intro d1 d2 v1 v2 H Q r1 r2 w
  unfold subD at w
  split at w
  · rw [rt_int r1, rt_int r2]
    exact ⟨_, _, rfl, rfl, w _ H (Same.refl H) rn_int⟩
  · exact w.elim
theorem sn_sub (ha : SE X EX C a f) (hb : SE X EX C b g) : SN X EX C (.BinOp a .Sub b pos) (fun ρ => f ρ >>= fun x => g ρ >>= fun y => subD x y) := sn_op op_sub im_sub ha hb

def small64 (i : Int) : Bool := decide (i.natAbs < 18446744073709551616)
def mulOk (i j : Int) : Bool := small64 i || small64 j || decide (i.natAbs.log2 + j.natAbs.log2 < 1000000)
def mulD : D → D → R D
  | .t (.int i), .t (.int j) => if mulOk i j then .ok (.t (.int (i * j))) else .stuck
  | .t (.str x), .t (.int n) => if x.length ≤ 1000 ∧ -1000 ≤ n ∧ n ≤ 1000 then .ok (.t (.str (Txt.mul x n))) else .stuck
  | .t (.tup xs), .t (.int n) => if xs ≠ [] ∧ xs.length ≤ 1000 ∧ 1 ≤ n ∧ n ≤ 1000 then .ok (.t (.tup (List.replicate n.toNat xs).flatten)) else .stuck
  | _, _ => .stuck
def rStrMul : R2 := fun x y H Q => ∃ z n, x = .str z ∧ y = .int n ∧ z.length ≤ 1000 ∧ -1000 ≤ n ∧ n ≤ 1000 ∧ Q (.str (Txt.mul z n)) H
theorem op_strmul : OpR X (binaryOp .Mult) rStrMul := by
  intro pins s σ H x y v u Q I rx ry h
  obtain ⟨z, n, rfl, rfl, h1, h2, h3, q⟩ := h
  obtain ⟨t, rfl⟩ := rx
  obtain ⟨t', rfl⟩ := ry
  refine SB.mul (PyProof.Rows.mulOk_of 1000 1000 h1 (by omega) (by omega) (by decide) (by decide)) fun t' k => ?_
  exact ⟨.str (Txt.mul z n), H, I.tok _, ⟨_, rfl⟩, q⟩
/-- t * 1 is t -/
def rTup1 (K : PySem.W.Frag) : R2 := fun x y H Q => ∃ l xs, x = .ref l ∧ y = .int 1 ∧ SqT K H l xs ∧ xs ≠ [] ∧ Q (.ref l) H
theorem tuple_mul1 (l : Addr) (items : Array Value) (n : Nat) (sl : Array (Option Value)) (dd : Option Addr) (u : Tok) :
    Meets (Builtin.«tuple.__mul__» ⟨[.ref l, .int 1 u], []⟩) (fun _ R s => s.heap.get? l = some { cls := .type "tuple", dict := dd, data := .seq items n, slots := sl } ∧
      R (.ok (.ret (Value.ref l))) s) :=
  .of_wp fun prog w A R s h => by
    obtain ⟨hp, g, d, tk, os⟩ := s
    obtain ⟨hl, h⟩ := h
    have f1 := AutoSeq1.idx_int
    have c1 : (items.isEmpty || (1 : Int) == 1) = true := by simp
    wp_walk using wpAny_loadPart' hl
    exact ⟨_, rfl, h⟩
theorem op_rep1 : OpR X (binaryOp .Mult) (rTup1 X.K) := by
  intro pins s σ H x y v u Q I rx ry h
  obtain ⟨l, xs, rfl, rfl, hT, hne, q⟩ := h
  cases rx
  obtain ⟨t, rfl⟩ := ry
  obtain ⟨its, r, ⟨⟨cls, dd, data, sl⟩, ho, hc, n, hd⟩, hs⟩ := I.tuple hT
  simp only at hc hd
  subst hc hd
  refine wpAny_binaryOp_repeat_ref (T := "tuple") (U := "int") (by decide) ⟨_, ho, rfl⟩ (fun s' => typeIs_int s' 1 t) noFill_tuple_mul F.fills_int_mul F.slot_int_rmul repeat_tuple F.slot_int_index.lookup
    (call_meets F.slot_int_rmul (typeIs_int s 1 t) F.entry_int_rmul (F.args_int_rmul_2 _ _) (int_rmul_tuple 1 t l its.toArray n dd sl)
      ⟨ho, rfl, ⟨_, ho, rfl⟩, call_meets F.slot_tuple_mul ⟨_, ho, rfl⟩ F.entry_tuple_mul (F.args_tuple_mul_2 _ _) (tuple_mul1 l its.toArray n sl dd t) ⟨ho, ?_⟩⟩)
  exact ⟨.ref l, H, I, rfl, q⟩
def rMulI : R2 := rI (fun i j => CMul i j ∨ CMulW i j) fun i j => .int (i * j)
theorem op_mulA : OpR X (binaryOp .Mult) rMulI := opI fun _ _ _ _ _ _ _ hc q => PyProof.Rows.mul_int q (hc.elim (fun h => h.ok) fun h => h.ok)
def rMulAll (K : PySem.W.Frag) : R2 := fun x y H Q => rMulI x y H Q ∨ rStrMul x y H Q ∨ rRepT K x y H Q ∨ rTup1 K x y H Q
theorem op_mulAll : OpR X (binaryOp .Mult) (rMulAll X.K) := OpR.or op_mulA (OpR.or op_strmul (OpR.or op_repT op_rep1))
theorem mulOk_c {i j : Int} (h : mulOk i j = true) : CMul i j ∨ CMulW i j := by
  unfold mulOk small64 at h
  simp only [Bool.or_eq_true, Bool.and_eq_true, decide_eq_true_eq] at h
  rcases h with (h | h) | h
  · exact .inl (.inl ⟨by omega, by omega⟩)
  · exact .inl (.inr ⟨by omega, by omega⟩)
  · exact .inr h
theorem RTs.rep {K : PySem.W.Frag} {H : Hp} {ds : List T} {vs : List V} (r : RTs K H ds vs) : ∀ n : Nat, RTs K H (List.replicate n ds).flatten (List.replicate n vs).flatten
  | 0 => RTs.nil
  | n + 1 => by
    rw [List.replicate_succ, List.replicate_succ, List.flatten_cons, List.flatten_cons]
    exact r.append (RTs.rep r n)
theorem im_mul : Impl2 X EX C mulD (rMulAll X.K) := by
  intro d1 d2 v1 v2 H Q r1 r2 w
  unfold mulD at w
  split at w
  · split at w
    · rename_i h
      rw [rt_int r1, rt_int r2]
      exact .inl ⟨_, _, rfl, rfl, mulOk_c h, w _ H (Same.refl H) rn_int⟩
    · exact w.elim
  · split at w
    · rename_i h
      rw [rt_str r1, rt_int r2]
      exact .inr (.inl ⟨_, _, rfl, rfl, h.1, h.2.1, h.2.2, w _ H (Same.refl H) rn_str⟩)
    · exact w.elim
  · rename_i xs n
    split at w
    · rename_i h
      obtain ⟨h0, h1, h2, h3⟩ := h
      obtain ⟨a, ys, rfl, ha, ra⟩ := rt_tup r1
      rw [rt_int r2]
      have hl := ra.length
      have hne : ys ≠ [] := fun e => h0 (List.eq_nil_of_length_eq_zero (by rw [← hl, e]; rfl))
      by_cases hn : n = 1
      · subst hn
        have e : (List.replicate (1 : Int).toNat xs).flatten = xs := by simp
        rw [e] at w
        exact .inr (.inr (.inr ⟨a, ys, rfl, rfl, ha, hne, w _ H (Same.refl H) (rn_tup ha ra)⟩))
      · exact .inr (.inr (.inl ⟨a, n, ys, rfl, rfl, ha, hne, by omega, h3, by omega, fun p hp => w _ _ (same_new hp _) (new_tup hp (ra.rep _))⟩))
    · exact w.elim
  · exact w.elim
theorem sn_mul (ha : SE X EX C a f) (hb : SE X EX C b g) : SN X EX C (.BinOp a .Mult b pos) (fun ρ => f ρ >>= fun x => g ρ >>= fun y => mulD x y) := sn_op op_mulAll im_mul ha hb

def divOk (j : Int) : Bool := (decide (j ≠ 0) && decide (j.natAbs < 1073741824)) || (decide (0 < j) && decide (j.natAbs.log2 < 9000))
def divD : D → D → R D
  | .t (.int i), .t (.int j) => if divOk j then .ok (.t (.int (i.fdiv j))) else .stuck
  | _, _ => .stuck
def rDivA : R2 := fun x y H Q => rI CDivN (fun i j => .int (i.fdiv j)) x y H Q ∨ rI CDivW (fun i j => .int (i / j)) x y H Q
theorem op_divA : OpR X (binaryOp .FloorDiv) rDivA := OpR.or op_fdivN op_fdivW
theorem im_div : Impl2 X EX C divD rDivA := by
  intro d1 d2 v1 v2 H Q r1 r2 w
  unfold divD at w
  split at w
  · split at w
    · rename_i i j h
      rw [rt_int r1, rt_int r2]
      unfold divOk at h
      simp only [Bool.or_eq_true, Bool.and_eq_true, decide_eq_true_eq] at h
      rcases h with h | h
      · exact .inl ⟨_, _, rfl, rfl, h, w _ H (Same.refl H) rn_int⟩
      · refine .inr ⟨_, _, rfl, rfl, h, ?_⟩
        have e : i.fdiv j = i / j := Int.fdiv_eq_ediv_of_nonneg i (by omega)
        rw [e] at w
        exact w _ H (Same.refl H) rn_int
    · exact w.elim
  · exact w.elim
theorem sn_div (ha : SE X EX C a f) (hb : SE X EX C b g) : SN X EX C (.BinOp a .FloorDiv b pos) (fun ρ => f ρ >>= fun x => g ρ >>= fun y => divD x y) := sn_op op_divA im_div ha hb
def modD : D → D → R D
  | .t (.int i), .t (.int j) => if j ≠ 0 then .ok (.t (.int (i.fmod j))) else .stuck
  | _, _ => .stuck
theorem im_mod : Impl2 X EX C modD (rI (fun _ j => j ≠ 0) fun i j => .int (i.fmod j)) := by
  intro d1 d2 v1 v2 H Q r1 r2 w
  unfold modD at w
  split at w
  · split at w
    · rename_i h
      rw [rt_int r1, rt_int r2]
      exact ⟨_, _, rfl, rfl, h, w _ H (Same.refl H) rn_int⟩
    · exact w.elim
  · exact w.elim
theorem sn_mod (ha : SE X EX C a f) (hb : SE X EX C b g) : SN X EX C (.BinOp a .Mod b pos) (fun ρ => f ρ >>= fun x => g ρ >>= fun y => modD x y) := sn_op op_modN im_mod ha hb
def powD : D → D → R D
  | .t (.int i), .t (.int j) => if 0 ≤ j ∧ j ≤ 1000 ∧ i.natAbs < 2 ^ 64 then .ok (.t (.int (i ^ j.toNat))) else .stuck
  | _, _ => .stuck
theorem im_pow : Impl2 X EX C powD (rI CPow fun i j => .int (i ^ j.toNat)) := by
  intro d1 d2 v1 v2 H Q r1 r2 w
  unfold powD at w
  split at w
  · split at w
    · rename_i h
      rw [rt_int r1, rt_int r2]
      exact ⟨_, _, rfl, rfl, ⟨h.1, by omega, h.2.2⟩, w _ H (Same.refl H) rn_int⟩
    · exact w.elim
  · exact w.elim
theorem sn_pow (ha : SE X EX C a f) (hb : SE X EX C b g) : SN X EX C (.BinOp a .Pow b pos) (fun ρ => f ρ >>= fun x => g ρ >>= fun y => powD x y) := sn_op op_pow im_pow ha hb
def negD : D → R D
  | .t (.int i) => .ok (.t (.int (-i)))
  | _ => .stuck
theorem sn_neg (ha : SE X EX C a f) : SN X EX C (.UnaryOp .USub a pos) (fun ρ => f ρ >>= negD) := by
  obtain ⟨ta, pa, qa⟩ := ha
  refine ⟨_, pe_un un_neg pa, fun F σ H ρ Q er w => ?_⟩
  refine qa F σ H ρ _ er (w.bind.imp fun d1 _ k v1 H1 s1 r1 => ?_)
  unfold negD at k
  split at k
  · rw [rt_int r1]
    exact ⟨_, rfl, k _ H1 s1 rn_int⟩
  · exact k.elim

/-! ### comparisons -/
def ltD : D → D → R D
  | .t (.int i), .t (.int j) => .ok (.t (.bl (decide (i < j))))
  | _, _ => .stuck
def leD : D → D → R D
  | .t (.int i), .t (.int j) => .ok (.t (.bl (decide (i ≤ j))))
  | .t (.str i), .t (.str j) => .ok (.t (.bl (!decide (j.cps.toList < i.cps.toList))))
  | _, _ => .stuck
def gtD : D → D → R D
  | .t (.int i), .t (.int j) => .ok (.t (.bl (decide (j < i))))
  | _, _ => .stuck
def geD : D → D → R D
  | .t (.int i), .t (.int j) => .ok (.t (.bl (decide (j ≤ i))))
  | _, _ => .stuck
theorem im_lt : Impl2 X EX C ltD (rI0 fun i j => .bl (decide (i < j))) := by
  intro d1 d2 v1 v2 H Q r1 r2 w
  unfold ltD at w
  split at w
  · rw [rt_int r1, rt_int r2]; exact ⟨_, _, rfl, rfl, w _ H (Same.refl H) rn_bl⟩
  · exact w.elim
theorem im_gt : Impl2 X EX C gtD (rI0 fun i j => .bl (decide (j < i))) := by
  intro d1 d2 v1 v2 H Q r1 r2 w
  unfold gtD at w
  split at w
  · rw [rt_int r1, rt_int r2]; exact ⟨_, _, rfl, rfl, w _ H (Same.refl H) rn_bl⟩
  · exact w.elim
theorem im_ge : Impl2 X EX C geD (rI0 fun i j => .bl (decide (j ≤ i))) := by
  intro d1 d2 v1 v2 H Q r1 r2 w
  unfold geD at w
  split at w
  · rw [rt_int r1, rt_int r2]; exact ⟨_, _, rfl, rfl, w _ H (Same.refl H) rn_bl⟩
  · exact w.elim
def rLeS : R2 := fun x y H Q => ∃ i j, x = .str i ∧ y = .str j ∧ Q (.bl (!decide (j.cps.toList < i.cps.toList))) H
theorem im_le : Impl2 X EX C leD (fun x y H Q => rI0 (fun i j => .bl (decide (i ≤ j))) x y H Q ∨ rLeS x y H Q) := by
  intro d1 d2 v1 v2 H Q r1 r2 w
  unfold leD at w
  split at w
  · rw [rt_int r1, rt_int r2]; exact .inl ⟨_, _, rfl, rfl, w _ H (Same.refl H) rn_bl⟩
  · rw [rt_str r1, rt_str r2]; exact .inr ⟨_, _, rfl, rfl, w _ H (Same.refl H) rn_bl⟩
  · exact w.elim
theorem sn_lt (ha : SE X EX C a f) (hb : SE X EX C b g) : SN X EX C (.Compare a [.Lt] [b] pos) (fun ρ => f ρ >>= fun x => g ρ >>= fun y => ltD x y) := sn_cmp op_lt im_lt (nomark _) ha hb
theorem sn_gt (ha : SE X EX C a f) (hb : SE X EX C b g) : SN X EX C (.Compare a [.Gt] [b] pos) (fun ρ => f ρ >>= fun x => g ρ >>= fun y => gtD x y) := sn_cmp op_gt im_gt (nomark _) ha hb
theorem sn_ge (ha : SE X EX C a f) (hb : SE X EX C b g) : SN X EX C (.Compare a [.GtE] [b] pos) (fun ρ => f ρ >>= fun x => g ρ >>= fun y => geD x y) := sn_cmp op_ge im_ge (nomark _) ha hb
theorem sn_le (ha : SE X EX C a f) (hb : SE X EX C b g) : SN X EX C (.Compare a [.LtE] [b] pos) (fun ρ => f ρ >>= fun x => g ρ >>= fun y => leD x y) := sn_cmp (OpR.or op_le op_le_str) im_le (nomark _) ha hb

/-! ### ==, != -/
mutual
def toPy : T → PyData
  | .non => .none
  | .bl b => .bool b
  | .int i => .int i
  | .str s => .str s
  | .tup xs => .tuple (toPys xs)
def toPys : List T → List PyData
  | [] => []
  | x :: xs => toPy x :: toPys xs
end
section
variable {K : PySem.W.Frag} {H : Hp}
mutual
theorem RT.dp : ∀ (d : T) (v : V), RT K H d v → Dp K H v (toPy d)
  | .non, v, r => by unfold RT at r; subst r; unfold toPy; exact .non
  | .bl b, v, r => by unfold RT at r; subst r; unfold toPy; exact .bl b
  | .int i, v, r => by unfold RT at r; subst r; unfold toPy; exact .int i
  | .str s, v, r => by unfold RT at r; subst r; unfold toPy; exact .str s
  | .tup ds, v, r => by
    unfold RT at r
    obtain ⟨a, xs, rfl, q, rs⟩ := r
    unfold toPy
    exact .tup q (RTs.dp ds xs rs)
theorem RTs.dp : ∀ (ds : List T) (vs : List V), RTs K H ds vs → DpAll K H vs (toPys ds)
  | [], vs, r => by rw [r.unnil]; unfold toPys; exact .nil
  | d :: ds, vs, r => by
    obtain ⟨v, ws, rfl, r1, rs⟩ := r.uncons
    unfold toPys
    exact .cons (RT.dp d v r1) (RTs.dp ds ws rs)
end
end
/-- scalars -/
def eqS : T → T → Option Bool
  | .non, .non => some true
  | .non, .int _ | .int _, .non | .non, .bl _ | .bl _, .non | .non, .str _ | .str _, .non => some false
  | .int i, .int j => some (decide (i = j))
  | .bl i, .bl j => some (decide (i = j))
  | .str i, .str j => some (decide (i = j))
  | .int _, .str _ | .str _, .int _ | .bl _, .str _ | .str _, .bl _ => some false
  | _, _ => none
def sameMap (ks ls : List (Str × Int)) : Bool := decide (ks.length = ls.length) && ks.all fun p => decide (ls.find? (fun q => decide (q.1 = p.1)) = some p)
/-- do two data equal (none: not served) -/
def eqB : D → D → Option Bool
  | .t x, .t y => match eqS x y with
    | some b => some b
    | none => if SeqAt.shaped (toPy x) && SeqAt.shaped (toPy y) then some (PyData.eqv (toPy x) (toPy y)) else none
  | .lst xs, .lst ys => if SeqAt.shaped (.list (toPys xs)) && SeqAt.shaped (.list (toPys ys)) then some (PyData.eqv (.list (toPys xs)) (.list (toPys ys))) else none
  | .dct ks, .dct ls => if sameMap ks ls then some true else none
  | _, _ => none
def eqD (x y : D) : R D := match eqB x y with
  | some b => .ok (.t (.bl b))
  | none => .stuck
def neD (x y : D) : R D := match eqB x y with
  | some b => .ok (.t (.bl (!b)))
  | none => .stuck
def rEqAll (K : PySem.W.Frag) : R2 := fun x y H Q => rEq x y H Q ∨ rEqD K x y H Q ∨ rEqDA x y H Q
def rNeAll (K : PySem.W.Frag) : R2 := fun x y H Q => rNe x y H Q ∨ rNeD K x y H Q ∨ rNeDA x y H Q
theorem op_eqAll (hu : X.A.units + 64 < cLine) : OpR X (compareOp .Eq) (rEqAll X.K) := OpR.or op_eq (OpR.or (op_eqD hu) (op_eq_dictA (by omega)))
theorem op_neAll (hu : X.A.units + 64 < cLine) : OpR X (compareOp .NotEq) (rNeAll X.K) := OpR.or op_ne (OpR.or (op_neD hu) (op_ne_dictA (by omega)))
theorem eqS_sc {K : PySem.W.Frag} {H : Hp} {x y : T} {v u : V} {b : Bool} (h : eqS x y = some b) (r1 : RT K H x v) (r2 : RT K H y u) : scal v u = true ∧ decide (v = u) = b := by
  unfold eqS at h
  split at h <;> first | (unfold RT at r1 r2; subst r1 r2; cases h; first | exact ⟨rfl, by simp⟩ | exact ⟨rfl, rfl⟩) | cases h
theorem valV_dK (ls : List (Str × Int)) (k : Str) : valV (dK ls) (Sum.inr k) = (ls.find? (fun q => decide (q.1 = k))).map fun q => V.int q.2 := by
  induction ls with
  | nil => rfl
  | cons p r ih =>
    by_cases h : p.1 = k
    · show valV ((Sum.inr p.1, V.int p.2) :: dK r) _ = _
      rw [valV_pos (by rw [h]), List.find?_cons]
      simp [h]
    · show valV ((Sum.inr p.1, V.int p.2) :: dK r) _ = _
      rw [valV_neg (fun e => h (Sum.inr.inj e)), ih, List.find?_cons]
      simp [h]
theorem same_map {ks ls : List (Str × Int)} (h : sameMap ks ls = true) : (dK ks).length = (dK ls).length ∧ ∀ p ∈ dK ks, valV (dK ls) p.1 = some p.2 ∧ flatB p.2 = true := by
  unfold sameMap at h
  simp only [Bool.and_eq_true, decide_eq_true_eq, List.all_eq_true] at h
  refine ⟨by unfold dK; rw [List.length_map, List.length_map]; exact h.1, fun p hp => ?_⟩
  obtain ⟨q, hq, rfl⟩ := List.mem_map.mp hp
  refine ⟨?_, rfl⟩
  show valV (dK ls) (Sum.inr q.1) = some (V.int q.2)
  rw [valV_dK, h.2 q hq]; rfl
theorem im_eqB {b : Bool} {d1 d2 : D} {v1 v2 : V} {H : Hp} (r1 : RD X.K H d1 v1) (r2 : RD X.K H d2 v2) (h : eqB d1 d2 = some b) :
    (∀ Q : VK, Q (.bl b) H → rEqAll X.K v1 v2 H Q) ∧ (∀ Q : VK, Q (.bl (!b)) H → rNeAll X.K v1 v2 H Q) := by
  unfold eqB at h
  split at h
  · rename_i x y
    split at h
    · rename_i c hc
      cases h
      obtain ⟨s1, s2⟩ := eqS_sc hc r1 r2
      exact ⟨fun Q q => .inl ⟨s1, by rw [s2]; exact q⟩, fun Q q => .inl ⟨s1, by rw [s2]; exact q⟩⟩
    · split at h
      · rename_i hs
        cases h
        simp only [Bool.and_eq_true] at hs
        exact ⟨fun Q q => .inr (.inl ⟨_, _, RT.dp _ _ r1, RT.dp _ _ r2, hs.1, hs.2, q⟩), fun Q q => .inr (.inl ⟨_, _, RT.dp _ _ r1, RT.dp _ _ r2, hs.1, hs.2, q⟩)⟩
      · cases h
  · split at h
    · rename_i hs
      cases h
      simp only [Bool.and_eq_true] at hs
      obtain ⟨a, xs, rfl, ha, ra⟩ := r1
      obtain ⟨c, ys, rfl, hb, rb⟩ := r2
      exact ⟨fun Q q => .inr (.inl ⟨_, _, .lst (SqL.of ha) (RTs.dp _ _ ra), .lst (SqL.of hb) (RTs.dp _ _ rb), hs.1, hs.2, q⟩), fun Q q => .inr (.inl ⟨_, _, .lst (SqL.of ha) (RTs.dp _ _ ra), .lst (SqL.of hb) (RTs.dp _ _ rb), hs.1, hs.2, q⟩)⟩
    · cases h
  · split at h
    · rename_i hs
      cases h
      obtain ⟨a, rfl, ha⟩ := r1
      obtain ⟨c, rfl, hb⟩ := r2
      obtain ⟨m1, m2⟩ := same_map hs
      exact ⟨fun Q q => .inr (.inr ⟨a, c, _, _, rfl, rfl, ha, hb, m1, m2, q⟩), fun Q q => .inr (.inr ⟨a, c, _, _, rfl, rfl, ha, hb, m1, m2, q⟩)⟩
    · cases h
  · cases h
theorem im_eq : Impl2 X EX C eqD (rEqAll X.K) := by
  intro d1 d2 v1 v2 H Q r1 r2 w
  unfold eqD at w
  split at w
  · rename_i b h
    exact (im_eqB r1 r2 h).1 Q (w _ H (Same.refl H) rn_bl)
  · exact w.elim
theorem im_ne : Impl2 X EX C neD (rNeAll X.K) := by
  intro d1 d2 v1 v2 H Q r1 r2 w
  unfold neD at w
  split at w
  · rename_i b h
    exact (im_eqB r1 r2 h).2 Q (w _ H (Same.refl H) rn_bl)
  · exact w.elim
theorem sn_eq (hu : X.A.units + 64 < cLine) (ha : SE X EX C a f) (hb : SE X EX C b g) : SN X EX C (.Compare a [.Eq] [b] pos) (fun ρ => f ρ >>= fun x => g ρ >>= fun y => eqD x y) := sn_cmp (op_eqAll hu) im_eq (nomark _) ha hb
theorem sn_ne (hu : X.A.units + 64 < cLine) (ha : SE X EX C a f) (hb : SE X EX C b g) : SN X EX C (.Compare a [.NotEq] [b] pos) (fun ρ => f ρ >>= fun x => g ρ >>= fun y => neD x y) := sn_cmp (op_neAll hu) im_ne (nomark _) ha hb
end
end Pf

set_option Elab.async false
set_option linter.all false
set_option maxRecDepth 100000
set_option maxHeartbeats 2000000
namespace Pf
open PySem L2
section
variable {X : Cx} {EX : XK} {C : Nat → Addr} {a b : Expr} {f g : Ev → R D} {pos : Pos}

/-! ### is -/
def isC (x : D) : T → R D
  | .non => .ok (.t (.bl (match x with | .t .non => true | _ => false)))
  | .bl b => .ok (.t (.bl (match x with | .t (.bl c) => decide (c = b) | _ => false)))
  | _ => .stuck
def isD (x : D) : D → R D
  | .t y => isC x y
  | _ => .stuck
def notD : D → R D
  | .t (.bl b) => .ok (.t (.bl (!b)))
  | _ => .stuck
def isnD (x y : D) : R D := isD x y >>= notD
def rIsC : R2 := fun x y H Q => (y = .non ∨ ∃ b, y = .bl b) ∧ Q (.bl (decide (x = y))) H
def rIsnC : R2 := fun x y H Q => (y = .non ∨ ∃ b, y = .bl b) ∧ Q (.bl (!decide (x = y))) H
theorem plain_is {x y : V} {v u : Value} (rx : RelV x v) (ry : RelV y u) (h : y = .non ∨ ∃ b, y = .bl b) : plainIs v u = true ∧ (v == u) = decide (x = y) := by
  rcases h with rfl | ⟨b, rfl⟩
  · cases ry
    cases x with
    | non => cases rx; exact ⟨rfl, by simp⟩
    | bl c => cases rx; exact ⟨rfl, by simp⟩
    | int i => obtain ⟨t, rfl⟩ := rx; exact ⟨rfl, by simp⟩
    | str i => obtain ⟨t, rfl⟩ := rx; exact ⟨rfl, by simp⟩
    | byt i => obtain ⟨t, rfl⟩ := rx; exact ⟨rfl, by simp⟩
    | flt i => obtain ⟨t, rfl⟩ := rx; exact ⟨rfl, by simp⟩
    | ref c => cases rx; exact ⟨rfl, by simp⟩
    | ty c => cases rx; exact ⟨rfl, by simp⟩
  · cases ry
    cases x with
    | non => cases rx; exact ⟨rfl, by simp⟩
    | bl c => cases rx; exact ⟨rfl, by by_cases e : c = b <;> simp [e]⟩
    | int i => obtain ⟨t, rfl⟩ := rx; exact ⟨rfl, by simp⟩
    | str i => obtain ⟨t, rfl⟩ := rx; exact ⟨rfl, by simp⟩
    | byt i => obtain ⟨t, rfl⟩ := rx; exact ⟨rfl, by simp⟩
    | flt i => obtain ⟨t, rfl⟩ := rx; exact ⟨rfl, by simp⟩
    | ref c => cases rx; exact ⟨rfl, by simp⟩
    | ty c => cases rx; exact ⟨rfl, by simp⟩
theorem op_isC : OpR X (compareOp .Is) rIsC := by
  intro pins s σ H x y v u Q I rx ry h
  obtain ⟨hy, q⟩ := h
  obtain ⟨p1, p2⟩ := plain_is rx ry hy
  exact wpAny_is_plain p1 ⟨.bl (decide (x = y)), H, I, by rw [p2]; rfl, q⟩
theorem op_isnC : OpR X (compareOp .IsNot) rIsnC := by
  intro pins s σ H x y v u Q I rx ry h
  obtain ⟨hy, q⟩ := h
  obtain ⟨p1, p2⟩ := plain_is rx ry hy
  exact wpAny_isNot_plain p1 ⟨.bl (!decide (x = y)), H, I, by rw [p2]; rfl, q⟩
theorem is_val {K : PySem.W.Frag} {H : Hp} {x : D} {y : T} {v u : V} {b : Bool} (r1 : RD K H x v) (r2 : RT K H y u) (h : isC x y = .ok (.t (.bl b))) : (u = .non ∨ ∃ b, u = .bl b) ∧ decide (v = u) = b := by
  cases y with
  | non =>
    have e := rt_non (K := K) (H := H) r2
    subst e
    refine ⟨.inl rfl, ?_⟩
    cases x with
    | t z =>
      cases z with
      | non => rw [rt_non r1]; cases h; simp
      | bl c => rw [rt_bl r1]; cases h; simp
      | int c => rw [rt_int r1]; cases h; simp
      | str c => rw [rt_str r1]; cases h; simp
      | tup c => obtain ⟨a, xs, rfl, _⟩ := rt_tup r1; cases h; simp
    | lst xs => obtain ⟨a, _, rfl, _⟩ := r1; cases h; simp
    | dct xs => obtain ⟨a, rfl, _⟩ := r1; cases h; simp
    | scr xs => obtain ⟨a, rfl, _⟩ := r1; cases h; simp
    | sn w xs => obtain ⟨a, _, rfl, _⟩ := r1; cases h; simp
    | pr z xs => obtain ⟨a, _, _, _, rfl, _⟩ := r1; cases h; simp
  | bl d =>
    have e := rt_bl (K := K) (H := H) r2
    subst e
    refine ⟨.inr ⟨d, rfl⟩, ?_⟩
    cases x with
    | t z =>
      cases z with
      | non => rw [rt_non r1]; cases h; simp
      | bl c => rw [rt_bl r1]; cases h; by_cases e : c = d <;> simp [e]
      | int c => rw [rt_int r1]; cases h; simp
      | str c => rw [rt_str r1]; cases h; simp
      | tup c => obtain ⟨a, xs, rfl, _⟩ := rt_tup r1; cases h; simp
    | lst xs => obtain ⟨a, _, rfl, _⟩ := r1; cases h; simp
    | dct xs => obtain ⟨a, rfl, _⟩ := r1; cases h; simp
    | scr xs => obtain ⟨a, rfl, _⟩ := r1; cases h; simp
    | sn w xs => obtain ⟨a, _, rfl, _⟩ := r1; cases h; simp
    | pr z xs => obtain ⟨a, _, _, _, rfl, _⟩ := r1; cases h; simp
  | int d => cases h
  | str d => cases h
  | tup d => cases h
theorem isC_bl {x : D} {y : T} {r : D} (h : isC x y = .ok r) : ∃ b, r = .t (.bl b) := by
  cases y <;> first | (cases h; exact ⟨_, rfl⟩) | cases h
theorem im_is : Impl2 X EX C isD rIsC := by
  intro d1 d2 v1 v2 H Q r1 r2 w
  cases d2 with
  | t y =>
    have w' : WN X.K EX C H (isC d1 y) Q := w
    cases e : isC d1 y with
    | ok r =>
      obtain ⟨b, rfl⟩ := isC_bl e
      obtain ⟨h1, h2⟩ := is_val r1 r2 e
      rw [e] at w'
      exact ⟨h1, by rw [h2]; exact w' _ H (Same.refl H) rn_bl⟩
    | raise c => cases y <;> cases e
    | stuck => rw [e] at w'; exact w'.elim
  | _ => exact w.elim
theorem im_isn : Impl2 X EX C isnD rIsnC := by
  intro d1 d2 v1 v2 H Q r1 r2 w
  cases d2 with
  | t y =>
    have w' : WN X.K EX C H (isC d1 y >>= notD) Q := w
    cases e : isC d1 y with
    | ok r =>
      obtain ⟨b, rfl⟩ := isC_bl e
      obtain ⟨h1, h2⟩ := is_val r1 r2 e
      rw [e] at w'
      exact ⟨h1, by rw [h2]; exact w' _ H (Same.refl H) rn_bl⟩
    | raise c => cases y <;> cases e
    | stuck => rw [e] at w'; exact w'.elim
  | _ => exact w.elim
theorem sn_is (ha : SE X EX C a f) (hb : SE X EX C b g) : SN X EX C (.Compare a [.Is] [b] pos) (fun ρ => f ρ >>= fun x => g ρ >>= fun y => isD x y) := sn_cmp op_isC im_is (nomark _) ha hb
theorem sn_isn (ha : SE X EX C a f) (hb : SE X EX C b g) : SN X EX C (.Compare a [.IsNot] [b] pos) (fun ρ => f ρ >>= fun x => g ρ >>= fun y => isnD x y) := sn_cmp op_isnC im_isn (nomark _) ha hb

/-! ### in -/
def flatT : T → Bool
  | .tup _ => false
  | _ => true
def eqvT : T → T → Bool
  | .non, .non => true
  | .bl a, .bl b => a == b
  | .bl a, .int b => (if a then 1 else 0) == b
  | .int a, .bl b => a == (if b then 1 else 0)
  | .int a, .int b => a == b
  | .str a, .str b => a == b
  | _, _ => false
def inB : D → D → Option Bool
  | .t x, .lst ys => if flatT x && ys.all flatT then some (ys.any fun y => eqvT y x) else none
  | .t x, .t (.tup ys) => if flatT x && ys.all flatT then some (ys.any fun y => eqvT y x) else none
  | .t (.str k), .dct kvs => some (kvs.find? (fun q => decide (q.1 = k))).isSome
  | .t (.str c), .t (.str z) => match c.cps.toList with
    | [n] => some (decide (n ∈ z.cps.toList))
    | _ => none
  | _, _ => none
def inD (x y : D) : R D := match inB x y with
  | some b => .ok (.t (.bl b))
  | none => .stuck
def ninD (x y : D) : R D := match inB x y with
  | some b => .ok (.t (.bl (!b)))
  | none => .stuck
def rInDct (neg : Bool) : R2 := fun y x H Q => ∃ a kvs k, y = .str k ∧ x = .ref a ∧ H a = some (.dK (dK kvs)) ∧ Q (.bl (if neg then !(valV (dK kvs) (Sum.inr k)).isSome else (valV (dK kvs) (Sum.inr k)).isSome)) H
theorem op_inDct (hu : X.A.units + 1 < cLine) : OpR X (compareOp .In) (rInDct false) := by
  intro pins s σ H x y v u Q I rx ry h
  obtain ⟨a, kvs, k, rfl, rfl, ha, q⟩ := h
  cases ry
  exact d_in hu I (DGet.k (k := Sum.inr k) ha) rx fun s' I' => ⟨.bl _, H, I', rfl, q⟩
theorem op_ninDct (hu : X.A.units + 1 < cLine) : OpR X (compareOp .NotIn) (rInDct true) := by
  intro pins s σ H x y v u Q I rx ry h
  obtain ⟨a, kvs, k, rfl, rfl, ha, q⟩ := h
  cases ry
  exact d_notIn hu I (DGet.k (k := Sum.inr k) ha) rx fun s' I' => ⟨.bl _, H, I', rfl, q⟩
def rInS (neg : Bool) : R2 := fun x y H Q => ∃ (c : Nat) (z : Str), x = .str ⟨#[c]⟩ ∧ y = .str z ∧ Q (.bl (if neg then !decide (c ∈ z.cps.toList) else decide (c ∈ z.cps.toList))) H
theorem op_inS' : OpR X (compareOp .In) (rInS false) := op_in_sign
theorem op_ninS' : OpR X (compareOp .NotIn) (rInS true) := op_notIn_sign
def rInAll (K : PySem.W.Frag) (neg : Bool) : R2 := fun x y H Q => rIn K neg x y H Q ∨ rInDct neg x y H Q ∨ rInS neg x y H Q
theorem op_inAll (hu : X.A.units + 1 < cLine) : OpR X (compareOp .In) (rInAll X.K false) := OpR.or op_in_seq (OpR.or (op_inDct hu) op_inS')
theorem op_ninAll (hu : X.A.units + 1 < cLine) : OpR X (compareOp .NotIn) (rInAll X.K true) := OpR.or op_notIn_seq (OpR.or (op_ninDct hu) op_ninS')
theorem flat_v {K : PySem.W.Frag} {H : Hp} {x : T} {v : V} (r : RT K H x v) (h : flatT x = true) : flatV v = true := by
  cases x <;> first | (unfold RT at r; subst r; rfl) | cases h
theorem eqv_v {K : PySem.W.Frag} {H : Hp} {x y : T} {v u : V} (r1 : RT K H x v) (r2 : RT K H y u) (h : flatT x = true) (h2 : flatT y = true) : eqV v u = eqvT x y := by
  cases x <;> cases y <;> first | (unfold RT at r1 r2; subst r1 r2; rfl) | (cases h; done) | (cases h2; done)
theorem any_v {K : PySem.W.Frag} {H : Hp} {x : T} {v : V} (r1 : RT K H x v) (h : flatT x = true) : ∀ {ys : List T} {us : List V}, RTs K H ys us → ys.all flatT = true → us.all flatV = true ∧ inV v us = ys.any fun y => eqvT y x
  | [], us, r, _ => by rw [r.unnil]; exact ⟨rfl, rfl⟩
  | y :: ys, us, r, q => by
    obtain ⟨u, ws, rfl, r2, rs⟩ := r.uncons
    rw [List.all_cons, Bool.and_eq_true] at q
    obtain ⟨i1, i2⟩ := any_v r1 h rs q.2
    refine ⟨by rw [List.all_cons, flat_v r2 q.1, i1]; rfl, ?_⟩
    show (u :: ws).any _ = _
    rw [List.any_cons, List.any_cons, eqv_v r2 r1 q.1 h]
    congr 1
theorem im_inB {b : Bool} {d1 d2 : D} {v1 v2 : V} {H : Hp} (r1 : RD X.K H d1 v1) (r2 : RD X.K H d2 v2) (h : inB d1 d2 = some b) (neg : Bool) (Q : VK) (q : Q (.bl (if neg then !b else b)) H) : rInAll X.K neg v1 v2 H Q := by
  unfold inB at h
  split at h
  · split at h
    · rename_i hf
      cases h
      simp only [Bool.and_eq_true] at hf
      obtain ⟨a, ys, rfl, ha, ra⟩ := r2
      obtain ⟨i1, i2⟩ := any_v r1 hf.1 ra hf.2
      exact .inl ⟨a, ys, rfl, .inl (SqL.of ha), flat_v r1 hf.1, i1, by rw [i2]; exact q⟩
    · cases h
  · split at h
    · rename_i hf
      cases h
      simp only [Bool.and_eq_true] at hf
      obtain ⟨a, ys, rfl, ha, ra⟩ := rt_tup r2
      obtain ⟨i1, i2⟩ := any_v r1 hf.1 ra hf.2
      exact .inl ⟨a, ys, rfl, .inr ha, flat_v r1 hf.1, i1, by rw [i2]; exact q⟩
    · cases h
  · rename_i k kvs
    cases h
    obtain ⟨a, rfl, ha⟩ := r2
    refine .inr (.inl ⟨a, kvs, k, rt_str r1, rfl, ha, ?_⟩)
    rw [valV_dK, Option.isSome_map]
    exact q
  · rename_i c z
    split at h
    · rename_i n hn
      cases h
      refine .inr (.inr ⟨n, z, ?_, rt_str r2, q⟩)
      rw [rt_str r1]
      obtain ⟨⟨l⟩⟩ := c
      simp only at hn
      subst hn
      rfl
    · cases h
  · cases h
theorem im_in : Impl2 X EX C inD (rInAll X.K false) := by
  intro d1 d2 v1 v2 H Q r1 r2 w
  unfold inD at w
  split at w
  · rename_i b h
    exact im_inB r1 r2 h false Q (w _ H (Same.refl H) rn_bl)
  · exact w.elim
theorem im_nin : Impl2 X EX C ninD (rInAll X.K true) := by
  intro d1 d2 v1 v2 H Q r1 r2 w
  unfold ninD at w
  split at w
  · rename_i b h
    exact im_inB r1 r2 h true Q (w _ H (Same.refl H) rn_bl)
  · exact w.elim
theorem sn_in (hu : X.A.units + 1 < cLine) (ha : SE X EX C a f) (hb : SE X EX C b g) (hm : behindInMarks .In b = false := by rfl) : SN X EX C (.Compare a [.In] [b] pos) (fun ρ => f ρ >>= fun x => g ρ >>= fun y => inD x y) := sn_cmp (op_inAll hu) im_in hm ha hb
theorem sn_nin (hu : X.A.units + 1 < cLine) (ha : SE X EX C a f) (hb : SE X EX C b g) (hm : behindInMarks .NotIn b = false := by rfl) : SN X EX C (.Compare a [.NotIn] [b] pos) (fun ρ => f ρ >>= fun x => g ρ >>= fun y => ninD x y) := sn_cmp (op_ninAll hu) im_nin hm ha hb

/-! ### subscripts -/
def ixD : D → D → R D
  | .lst xs, .t (.int i) => match atI xs i with
    | some x => .ok (.t x)
    | none => .stuck
  | .t (.tup xs), .t (.int i) => match atI xs i with
    | some x => .ok (.t x)
    | none => .stuck
  | .t (.str z), .t (.int i) => if z.length ≤ 16777216 then match atI z.cps.toList i with
      | some c => .ok (.t (.str ⟨#[c]⟩))
      | none => .stuck
    else .stuck
  | .scr ns, .t (.int i) => match atI ns i with
    | some n => .ok (.t (.int n))
    | none => .stuck
  | .pr x _, .t (.int i) => if i = 0 then .ok (.t x) else .stuck
  | _, _ => .stuck
theorem RTs.atI {K : PySem.W.Frag} {H : Hp} {ds : List T} {vs : List V} {i : Int} {d : T} (r : RTs K H ds vs) (h : L2.atI ds i = some d) : ∃ v, L2.atI vs i = some v ∧ RT K H d v := by
  unfold L2.atI at h ⊢
  rw [r.length]
  cases e : ixN ds.length i with
  | none => rw [e] at h; cases h
  | some j =>
    rw [e] at h
    exact RTs.get r h
theorem im_ix : Impl2 X EX C ixD (rIx X.K) := by
  intro d1 d2 v1 v2 H Q r1 r2 w
  unfold ixD at w
  split at w
  · split at w
    · rename_i x hx
      obtain ⟨a, ys, rfl, ha, ra⟩ := r1
      obtain ⟨v, h1, h2⟩ := ra.atI hx
      rw [rt_int r2]
      exact .inl ⟨a, ys, _, v, rfl, rfl, SqL.of ha, h1, w v H (Same.refl H) h2⟩
    · exact w.elim
  · split at w
    · rename_i x hx
      obtain ⟨a, ys, rfl, ha, ra⟩ := rt_tup r1
      obtain ⟨v, h1, h2⟩ := ra.atI hx
      rw [rt_int r2]
      exact .inr (.inl ⟨a, ys, _, v, rfl, rfl, ha, h1, w v H (Same.refl H) h2⟩)
    · exact w.elim
  · split at w
    · rename_i hz
      split at w
      · rename_i x hx
        rw [rt_str r1, rt_int r2]
        exact .inr (.inr ⟨_, _, _, rfl, rfl, by rw [sizeLine_eq]; exact hz, hx, w _ H (Same.refl H) rn_str⟩)
      · exact w.elim
    · exact w.elim
  · split at w
    · rename_i ns i _ n hx
      obtain ⟨a, rfl, ha⟩ := r1
      rw [rt_int r2]
      have h1 : atI (ns.map V.int) i = some (.int n) := by
        unfold atI at hx ⊢
        rw [List.length_map]
        cases e : ixN ns.length i with
        | none => rw [e] at hx; cases hx
        | some j =>
          rw [e] at hx
          show (ns.map V.int)[j]? = _
          have hx' : ns[j]? = some n := hx
          rw [List.getElem?_map, hx']; rfl
      exact .inl ⟨a, _, _, _, rfl, rfl, ha, h1, w _ H (Same.refl H) rn_int⟩
    · exact w.elim
  · split at w
    · rename_i h0
      subst h0
      obtain ⟨a, u, b, ys, rfl, g1, g2, _⟩ := r1
      rw [rt_int r2]
      exact .inr (.inl ⟨a, [u, .ref b], _, u, rfl, rfl, .inl (.inl g1), rfl, w u H (Same.refl H) g2⟩)
    · exact w.elim
  · exact w.elim
theorem sn_sub_ix (ha : SE X EX C a f) (hb : SE X EX C b g) (hs : PlainIx b := by exact fun _ _ => rfl) : SN X EX C (.Subscript a b pos) (fun ρ => f ρ >>= fun x => g ρ >>= fun y => ixD x y) := sn_ix ix_seq im_ix hs ha hb
/-- d[k] -/
def dgetD : D → D → R D
  | .dct kvs, .t (.str k) => match kvs.find? (fun q => decide (q.1 = k)) with
    | some p => .ok (.t (.int p.2))
    | none => .stuck
  | _, _ => .stuck
theorem im_dget {H : Hp} {d1 d2 : D} {v1 v2 : V} {Q : VK} (r1 : RD X.K H d1 v1) (r2 : RD X.K H d2 v2) (w : WN X.K EX C H (dgetD d1 d2) Q) : ∃ a v, v1 = .ref a ∧ DGet H a v2 (some v) ∧ Q v H := by
  unfold dgetD at w
  split at w
  · rename_i kvs key
    split at w
    · rename_i p hp
      obtain ⟨c, rfl, hc⟩ := r1
      rw [rt_str r2]
      refine ⟨c, .int p.2, rfl, ?_, w _ H (Same.refl H) rn_int⟩
      have e := DGet.k (k := Sum.inr key) hc
      rw [valV_dK, hp] at e
      exact e
    · exact w.elim
  · exact w.elim
theorem sn_dget (hu : X.A.units + 1 < cLine) (ha : SE X EX C a f) (hb : SE X EX C b g) (hs : NoSl b := by exact fun _ _ => rfl) : SN X EX C (.Subscript a b pos) (fun ρ => f ρ >>= fun x => g ρ >>= fun y => dgetD x y) := by
  obtain ⟨ta, pa, qa⟩ := ha
  obtain ⟨tb, pb, qb⟩ := hb
  refine ⟨_, pe_dget hu pa pb hs, fun F σ H ρ Q er w => ?_⟩
  refine qa F σ H ρ _ er (w.bind.imp fun d1 _ k v1 H1 s1 r1 => ?_)
  refine qb F σ H1 ρ _ (er.mono s1) ((Wp.bind k).mono s1 fun d2 _ k2 v2 H2 s2 r2 => ?_)
  exact im_dget (r1.same s2) r2 (WN.move k2 (s1.trans s2))

/-! ### arguments, displays, calls -/
theorem sa_nil : SA X EX C [] (fun _ => .ok []) := ⟨⟨_, pa_nil, fun F σ H ρ Q er w => w [] H (Same.refl H) rfl⟩, fun ρ ds h => by cases h; rfl⟩
theorem sa_cons {es : List Expr} {h : Ev → R (List D)} (ha : SE X EX C a f) (hr : SA X EX C es h) (hs : starEach (a :: es) X.env = (false, eval a X.env) :: starEach es X.env := by rfl) :
    SA X EX C (a :: es) (fun ρ => f ρ >>= fun x => h ρ >>= fun xs => .ok (x :: xs)) := by
  obtain ⟨ta, pa, qa⟩ := ha
  obtain ⟨⟨tr, pr, qr⟩, hl⟩ := hr
  refine ⟨⟨_, pa_cons pa pr hs, fun F σ H ρ Q er w => ?_⟩, fun ρ ds e => ?_⟩
  rotate_left
  · cases e1 : f ρ with
    | ok x =>
      cases e2 : h ρ with
      | ok xs =>
        have e' : (f ρ >>= fun x => h ρ >>= fun xs => R.ok (x :: xs)) = .ok ds := e
        rw [e1] at e'
        have e' : (h ρ >>= fun xs => R.ok (x :: xs)) = .ok ds := e'
        rw [e2] at e'
        cases e'
        simp [hl ρ xs e2]
      | raise c => have e' : (f ρ >>= fun x => h ρ >>= fun xs => R.ok (x :: xs)) = .ok ds := e; rw [e1] at e'; have e' : (h ρ >>= fun xs => R.ok (x :: xs)) = .ok ds := e'; rw [e2] at e'; cases e'
      | stuck => have e' : (f ρ >>= fun x => h ρ >>= fun xs => R.ok (x :: xs)) = .ok ds := e; rw [e1] at e'; have e' : (h ρ >>= fun xs => R.ok (x :: xs)) = .ok ds := e'; rw [e2] at e'; cases e'
    | raise c => have e' : (f ρ >>= fun x => h ρ >>= fun xs => R.ok (x :: xs)) = .ok ds := e; rw [e1] at e'; cases e'
    | stuck => have e' : (f ρ >>= fun x => h ρ >>= fun xs => R.ok (x :: xs)) = .ok ds := e; rw [e1] at e'; cases e'
  refine qa F σ H ρ _ er (w.bind.imp fun d1 _ k v1 H1 s1 r1 => ?_)
  refine qr F σ H1 ρ _ (er.mono s1) ((Wp.bind k).mono s1 fun ds _ k2 vs H2 s2 r2 => ?_)
  exact k2 _ H2 (s1.trans s2) ⟨_, _, rfl, r1.same s2, r2⟩
/-- data alone -/
def asTs : List D → R (List T)
  | [] => .ok []
  | .t x :: r => asTs r >>= fun xs => .ok (x :: xs)
  | _ :: _ => .stuck
theorem asTs_ok {K : PySem.W.Frag} {H : Hp} : ∀ {ds : List D} {ts : List T} {vs : List V}, asTs ds = .ok ts → RDs K H ds vs → RTs K H ts vs
  | [], ts, vs, h, r => by
    have e : vs = [] := r
    subst e; cases h; exact RTs.nil
  | .t x :: ds, ts, vs, h, r => by
    obtain ⟨v, ws, rfl, r1, rs⟩ := r
    cases e : asTs ds with
    | ok xs =>
      have h' : (asTs ds >>= fun xs => R.ok (x :: xs)) = .ok ts := h
      rw [e] at h'
      cases h'
      exact RTs.cons r1 (asTs_ok e rs)
    | raise c => have h' : (asTs ds >>= fun xs => R.ok (x :: xs)) = .ok ts := h; rw [e] at h'; cases h'
    | stuck => have h' : (asTs ds >>= fun xs => R.ok (x :: xs)) = .ok ts := h; rw [e] at h'; cases h'
  | .lst _ :: _, ts, vs, h, r => by cases h
  | .dct _ :: _, ts, vs, h, r => by cases h
  | .scr _ :: _, ts, vs, h, r => by cases h
  | .sn _ _ :: _, ts, vs, h, r => by cases h
def mkTup (ds : List D) : R D := asTs ds >>= fun xs => if xs.length ≤ 16777216 then .ok (.t (.tup xs)) else .stuck
def mkLst (ds : List D) : R D := asTs ds >>= fun xs => if xs.length ≤ 16777216 then .ok (.lst xs) else .stuck
theorem asTs_noraise {c : Nat} : ∀ {ds : List D}, asTs ds = .raise c → False
  | [], e => by cases e
  | .t x :: ds, e => by
    have e' : (asTs ds >>= fun xs => R.ok (x :: xs)) = .raise c := e
    cases e2 : asTs ds with
    | ok xs => rw [e2] at e'; cases e'
    | raise c2 => rw [e2] at e'; cases e'; exact asTs_noraise e2
    | stuck => rw [e2] at e'; cases e'
  | .lst _ :: _, h => by cases h
  | .dct _ :: _, h => by cases h
  | .scr _ :: _, h => by cases h
  | .sn _ _ :: _, h => by cases h
theorem sn_tup {es : List Expr} {x1} {h : Ev → R (List D)} (ha : SA X EX C es h) : SN X EX C (.Tuple es x1 pos) (fun ρ => h ρ >>= mkTup) := by
  obtain ⟨⟨ta, pa, qa⟩, _⟩ := ha
  refine ⟨_, pe_tup pa, fun F σ H ρ Q er w => ?_⟩
  refine qa F σ H ρ _ er (w.bind.imp fun ds _ k vs H1 s1 r1 => ?_)
  unfold mkTup at k
  cases e : asTs ds with
  | ok xs =>
    rw [e] at k
    have k : WN X.K EX C H (if xs.length ≤ 16777216 then R.ok (.t (.tup xs)) else .stuck) Q := k
    have rs := asTs_ok e r1
    split at k
    · rename_i hl
      refine ⟨by rw [rs.length, sizeLine_eq]; exact hl, fun p hp => k _ _ (s1.trans (same_new hp _)) ((new_tup hp rs).less s1)⟩
    · exact k.elim
  | raise c => exact (asTs_noraise e).elim
  | stuck => rw [e] at k; exact k.elim
theorem sn_lst {es : List Expr} {h : Ev → R (List D)} (ha : SA X EX C es h) : SN X EX C (.List es pos) (fun ρ => h ρ >>= mkLst) := by
  obtain ⟨⟨ta, pa, qa⟩, _⟩ := ha
  refine ⟨_, pe_lst pa, fun F σ H ρ Q er w => ?_⟩
  refine qa F σ H ρ _ er (w.bind.imp fun ds _ k vs H1 s1 r1 => ?_)
  unfold mkLst at k
  cases e : asTs ds with
  | ok xs =>
    rw [e] at k
    have k : WN X.K EX C H (if xs.length ≤ 16777216 then R.ok (.lst xs) else .stuck) Q := k
    have rs := asTs_ok e r1
    split at k
    · rename_i hl
      refine ⟨by rw [rs.length, sizeLine_eq]; exact hl, fun p hp => k _ _ (s1.trans (same_new hp _)) ((new_lst hp rs).less s1)⟩
    · exact k.elim
  | raise c => exact (asTs_noraise e).elim
  | stuck => rw [e] at k; exact k.elim
theorem sn_dnew : SN X EX C (.Dict [] [] pos) (fun _ => .ok (.dct [])) :=
  ⟨_, pe_dnewK, fun F σ H ρ Q er w p hp => w _ _ (same_new hp _) (new_dct (kvs := []) hp)⟩

/-- a built-in by name -/
theorem sn_callB {x : Str} {id : String} {r : List V → Hp → VK → Prop} {op1 : List D → R D} {es : List Expr} {h : Ev → R (List D)} {p : Pos} (hc : CallR X (.builtin id) r) (hi : Impl1 X EX C op1 r) (ha : SA X EX C (a :: es) h)
    (hm : X.mg x = none) (hv : bootBuiltins x = some (.builtin id)) (hg : Gl X x := by rfl) (hn : x ≠ "__name__" := by decide) (hdb : (x == ("__debug__" : Str)) = false := by decide)
    (he : starEach (a :: es) X.env = (false, eval a X.env) :: starEach es X.env := by rfl) (hpl : (backTo pos (starEach es X.env)).any (·.1) = false := by rfl) : SN X EX C (.Call (.Name x p) (a :: es) [] pos) (fun ρ => h ρ >>= op1) := by
  obtain ⟨⟨ta, pa, qa⟩, _⟩ := ha
  refine ⟨_, pe_callB hc hg hm hv pa hn hdb he hpl, fun F σ H ρ Q er w => ?_⟩
  exact qa F σ H ρ _ er (w.bind.imp fun ds _ k vs H1 s1 r1 => hi ds vs H1 Q r1 (WN.move k s1))
theorem sn_callTy {x : Str} {T : String} {r : List V → Hp → VK → Prop} {op1 : List D → R D} {es : List Expr} {h : Ev → R (List D)} {p : Pos} (hc : CallR X (.type T) r) (hi : Impl1 X EX C op1 r) (ha : SA X EX C (a :: es) h)
    (hm : X.mg x = none) (hv : bootBuiltins x = some (.type T)) (hg : Gl X x := by rfl) (hn : x ≠ "__name__" := by decide) (hdb : (x == ("__debug__" : Str)) = false := by decide)
    (he : starEach (a :: es) X.env = (false, eval a X.env) :: starEach es X.env := by rfl) (hpl : (backTo pos (starEach es X.env)).any (·.1) = false := by rfl) : SN X EX C (.Call (.Name x p) (a :: es) [] pos) (fun ρ => h ρ >>= op1) := by
  obtain ⟨⟨ta, pa, qa⟩, _⟩ := ha
  refine ⟨_, pe_callTy hc hg hm hv pa hn hdb he hpl, fun F σ H ρ Q er w => ?_⟩
  exact qa F σ H ρ _ er (w.bind.imp fun ds _ k vs H1 s1 r1 => hi ds vs H1 Q r1 (WN.move k s1))
end
/-! ### the promise of a def -/
def spR (K : PySem.W.Frag) (C : Nat → Addr) (n : Nat) (g : List D → R D) : Sp := fun vs H Q E => ∃ ds, vs.length = n ∧ RDs K H ds vs ∧ WN K E C H (g ds) Q
section
variable {X : Cx} {EX : XK} {C : Nat → Addr} {a b : Expr} {f g : Ev → R D} {pos : Pos}
theorem sn_call {x : Str} {k n : Nat} {fa : Addr} {fd : FuncData} {ps : List Str} {gr : List D → R D} {es : List Expr} {h : Ev → R (List D)} {p : Pos}
    (F : FnOk X.prog X.w X.K X.mg X.base (L2N.CX X.prog X.w) k fa fd ps (spR X.K C n gr)) (hr : Room k X.A) (hm : X.mg x = some (.ref fa)) (hk : PySem.W.keepIn X.K (.ref fa) = true) (hb : Binds X.K fd ps []) (hx : Passes (L2N.CX X.prog X.w) X EX)
    (ha : SA X EX C (a :: es) h) (hlen : n = es.length + 1) (hg : Gl X x := by rfl) (hdb : (x == ("__debug__" : Str)) = false := by decide) (he : starEach (a :: es) X.env = (false, eval a X.env) :: starEach es X.env := by rfl) (hpl : (backTo pos (starEach es X.env)).any (·.1) = false := by rfl) :
    SN X EX C (.Call (.Name x p) (a :: es) [] pos) (fun ρ => h ρ >>= gr) := by
  obtain ⟨⟨ta, pa, qa⟩, hla⟩ := ha
  refine ⟨_, pe_call F hr hg hm hk hb .nil hx pa hdb he hpl, fun F σ H ρ Q er w => ?_⟩
  refine qa F σ H ρ _ er (w.bind.imp fun ds eds k vs H1 s1 r1 => ?_)
  show spR X.K C n gr (vs ++ []) H1 Q EX
  rw [List.append_nil]
  exact ⟨ds, by rw [r1.length, hla ρ ds eds, hlen]; rfl, r1, WN.move k s1⟩
end
end Pf

set_option Elab.async false
set_option linter.all false
set_option maxRecDepth 100000
set_option maxHeartbeats 2000000
namespace Pf
open PySem L2

/-! ## built-ins -/
section
variable {X : Cx} {EX : XK} {C : Nat → Addr} {a b : Expr} {f g : Ev → R D} {pos : Pos}
def lenD : List D → R D
  | [.lst xs] => .ok (.t (.int xs.length))
  | [.t (.tup xs)] => .ok (.t (.int xs.length))
  | [.t (.str z)] => if z.length ≤ 16777216 then .ok (.t (.int z.length)) else .stuck
  | [.dct kvs] => .ok (.t (.int kvs.length))
  | [.scr ns] => .ok (.t (.int ns.length))
  | _ => .stuck
theorem rd1 {K : PySem.W.Frag} {H : Hp} {d : D} {vs : List V} (r : RDs K H [d] vs) : ∃ v, vs = [v] ∧ RD K H d v := by
  obtain ⟨v, ws, rfl, h, h2⟩ := r
  have e : ws = [] := h2
  subst e
  exact ⟨v, rfl, h⟩
theorem rd2 {K : PySem.W.Frag} {H : Hp} {d e : D} {vs : List V} (r : RDs K H [d, e] vs) : ∃ v u, vs = [v, u] ∧ RD K H d v ∧ RD K H e u := by
  obtain ⟨v, ws, rfl, h, h2⟩ := r
  obtain ⟨u, rfl, h3⟩ := rd1 h2
  exact ⟨v, u, rfl, h, h3⟩
def rLenSq (K : PySem.W.Frag) : List V → Hp → VK → Prop := fun xs H Q => ∃ p ys, xs = [.ref p] ∧ (SqL K H p ys ∨ SqT K H p ys) ∧ Q (.int ys.length) H
def rLenSt : List V → Hp → VK → Prop := fun xs H Q => ∃ z : Str, xs = [.str z] ∧ z.length ≤ sizeLine ∧ Q (.int z.length) H
def rLenDc : List V → Hp → VK → Prop := fun xs H Q => ∃ a kvs, xs = [V.ref a] ∧ H a = some (.dK kvs) ∧ Q (.int kvs.length) H
def rLen (K : PySem.W.Frag) : List V → Hp → VK → Prop := fun xs H Q => rLenSq K xs H Q ∨ rLenSt xs H Q ∨ rLenDc xs H Q
theorem cr_len : CallR X (.builtin "len") (rLen X.K) := CallR.or call_len_seq (CallR.or call_len_str call_lenD)
theorem im_len : Impl1 X EX C lenD (rLen X.K) := by
  intro ds vs H Q r w
  unfold lenD at w
  split at w
  · obtain ⟨v, rfl, a, xs, rfl, ha, ra⟩ := rd1 r
    rw [← ra.length] at w
    exact .inl ⟨a, xs, rfl, .inl (SqL.of ha), w _ H (Same.refl H) rn_int⟩
  · obtain ⟨v, rfl, h⟩ := rd1 r
    obtain ⟨a, xs, rfl, ha, ra⟩ := rt_tup h
    rw [← ra.length] at w
    exact .inl ⟨a, xs, rfl, .inr ha, w _ H (Same.refl H) rn_int⟩
  · split at w
    · rename_i hz
      obtain ⟨v, rfl, h⟩ := rd1 r
      rw [rt_str h]
      exact .inr (.inl ⟨_, rfl, by rw [sizeLine_eq]; exact hz, w _ H (Same.refl H) rn_int⟩)
    · exact w.elim
  · rename_i kvs
    obtain ⟨v, rfl, a, rfl, ha⟩ := rd1 r
    refine .inr (.inr ⟨a, _, rfl, ha, ?_⟩)
    have e : (dK kvs).length = kvs.length := by unfold dK; rw [List.length_map]
    rw [e]
    exact w _ H (Same.refl H) rn_int
  · rename_i ns
    obtain ⟨v, rfl, a, rfl, ha⟩ := rd1 r
    refine .inl ⟨a, _, rfl, .inl ha, ?_⟩
    rw [List.length_map]
    exact w _ H (Same.refl H) rn_int
  · exact w.elim
def listD : List D → R D
  | [.lst xs] => .ok (.lst xs)
  | [.t (.tup xs)] => .ok (.lst xs)
  | _ => .stuck
theorem im_list : Impl1 X EX C listD (fun xs H Q => ∃ p ys, xs = [.ref p] ∧ (SqL X.K H p ys ∨ SqT X.K H p ys) ∧ ∀ l, H l = none → Q (.ref l) (upd H l (.lst ys))) := by
  intro ds vs H Q r w
  unfold listD at w
  split at w
  · obtain ⟨v, rfl, a, xs, rfl, ha, ra⟩ := rd1 r
    exact ⟨a, xs, rfl, .inl (SqL.of ha), fun l hl => w _ _ (same_new hl _) (new_lst hl ra)⟩
  · obtain ⟨v, rfl, h⟩ := rd1 r
    obtain ⟨a, xs, rfl, ha, ra⟩ := rt_tup h
    exact ⟨a, xs, rfl, .inr ha, fun l hl => w _ _ (same_new hl _) (new_lst hl ra)⟩
  · exact w.elim
def tupleD : List D → R D
  | [.lst xs] => .ok (.t (.tup xs))
  | [.t (.tup xs)] => .ok (.t (.tup xs))
  | _ => .stuck
theorem im_tuple : Impl1 X EX C tupleD (fun xs H Q => ∃ p ys, xs = [.ref p] ∧ ((SqL X.K H p ys ∧ ∀ l, H l = none → Q (.ref l) (upd H l (.tup ys))) ∨ (SqT X.K H p ys ∧ Q (.ref p) H))) := by
  intro ds vs H Q r w
  unfold tupleD at w
  split at w
  · obtain ⟨v, rfl, a, xs, rfl, ha, ra⟩ := rd1 r
    exact ⟨a, xs, rfl, .inl ⟨SqL.of ha, fun l hl => w _ _ (same_new hl _) (new_tup hl ra)⟩⟩
  · obtain ⟨v, rfl, h⟩ := rd1 r
    obtain ⟨a, xs, rfl, ha, ra⟩ := rt_tup h
    exact ⟨a, xs, rfl, .inr ⟨ha, w _ H (Same.refl H) (rn_tup ha ra)⟩⟩
  · exact w.elim
def dictD : List D → R D
  | [.dct kvs] => .ok (.dct kvs)
  | _ => .stuck
theorem cr_dict : CallR X (.type "dict") (fun xs H Q => ∃ a kvs, xs = [.ref a] ∧ H a = some (.dK kvs) ∧ ∀ p, H p = none → Q (.ref p) (upd H p (.dK kvs))) := by
  intro pins s σ H xs us Q I r q
  obtain ⟨a, kvs, rfl, ha, q⟩ := q
  rw [Vals.ref1 r]
  exact d_copyOf I (.inl ha) fun p s' hp I' => ⟨.ref p, _, I', rfl, q p hp⟩
theorem im_dict : Impl1 X EX C dictD (fun xs H Q => ∃ a kvs, xs = [.ref a] ∧ H a = some (.dK kvs) ∧ ∀ p, H p = none → Q (.ref p) (upd H p (.dK kvs))) := by
  intro ds vs H Q r w
  unfold dictD at w
  split at w
  · obtain ⟨v, rfl, a, rfl, ha⟩ := rd1 r
    exact ⟨a, _, rfl, ha, fun l hl => w _ _ (same_new hl _) (new_dct hl)⟩
  · exact w.elim
def asInts : List T → Option (List Int)
  | [] => some []
  | .int i :: r => (asInts r).map (i :: ·)
  | _ :: _ => none
theorem asInts_eq : ∀ {ts : List T} {ns : List Int}, asInts ts = some ns → ts = ns.map T.int
  | [], ns, h => by cases h; rfl
  | .int i :: r, ns, h => by
    have h' : (asInts r).map (i :: ·) = some ns := h
    cases e : asInts r with
    | none => rw [e] at h'; cases h'
    | some ms => rw [e] at h'; cases h'; rw [asInts_eq e]; rfl
  | .non :: _, _, h => by cases h
  | .bl _ :: _, _, h => by cases h
  | .str _ :: _, _, h => by cases h
  | .tup _ :: _, _, h => by cases h
theorem asInts_map : ∀ (ns : List Int), asInts (ns.map T.int) = some ns
  | [] => rfl
  | n :: r => by
    show (asInts (r.map T.int)).map (n :: ·) = _
    rw [asInts_map r]; rfl
def asStrs : List T → Option (List Str)
  | [] => some []
  | .str i :: r => (asStrs r).map (i :: ·)
  | _ :: _ => none
theorem asStrs_eq : ∀ {ts : List T} {ns : List Str}, asStrs ts = some ns → ts = ns.map T.str
  | [], ns, h => by cases h; rfl
  | .str i :: r, ns, h => by
    have h' : (asStrs r).map (i :: ·) = some ns := h
    cases e : asStrs r with
    | none => rw [e] at h'; cases h'
    | some ms => rw [e] at h'; cases h'; rw [asStrs_eq e]; rfl
  | .non :: _, _, h => by cases h
  | .bl _ :: _, _, h => by cases h
  | .int _ :: _, _, h => by cases h
  | .tup _ :: _, _, h => by cases h
theorem asStrs_map : ∀ (ns : List Str), asStrs (ns.map T.str) = some ns
  | [] => rfl
  | n :: r => by
    show (asStrs (r.map T.str)).map (n :: ·) = _
    rw [asStrs_map r]; rfl
def sumD : List D → R D
  | [.lst xs] => match asInts xs with
    | some ns => .ok (.t (.int ns.sum))
    | none => .stuck
  | _ => .stuck
theorem im_sum : Impl1 X EX C sumD (rSum X.K) := by
  intro ds vs H Q r w
  unfold sumD at w
  split at w
  · split at w
    · rename_i ns hn
      obtain ⟨v, rfl, a, xs, rfl, ha, ra⟩ := rd1 r
      rw [asInts_eq hn] at ra
      rw [ra.ints] at ha
      exact ⟨a, ns, rfl, SqL.of ha, w _ H (Same.refl H) rn_int⟩
    · exact w.elim
  · exact w.elim
def intD : List D → R D
  | [.t (.int i)] => .ok (.t (.int i))
  | [.t (.bl k)] => .ok (.t (.int (if k then 1 else 0)))
  | _ => .stuck
theorem im_int : Impl1 X EX C intD (fun xs H Q => (∃ i, xs = [.int i] ∧ Q (.int i) H) ∨ ∃ k, xs = [.bl k] ∧ Q (.int (if k then 1 else 0)) H) := by
  intro ds vs H Q r w
  unfold intD at w
  split at w
  · obtain ⟨v, rfl, h⟩ := rd1 r
    rw [rt_int h]
    exact .inl ⟨_, rfl, w _ H (Same.refl H) rn_int⟩
  · obtain ⟨v, rfl, h⟩ := rd1 r
    rw [rt_bl h]
    exact .inr ⟨_, rfl, w _ H (Same.refl H) rn_int⟩
  · exact w.elim
def absD : List D → R D
  | [.t (.int i)] => .ok (.t (.int (if i < 0 then -i else i)))
  | _ => .stuck
theorem im_abs : Impl1 X EX C absD (fun xs H Q => ∃ i, xs = [.int i] ∧ Q (.int (if i < 0 then -i else i)) H) := by
  intro ds vs H Q r w
  unfold absD at w
  split at w
  · obtain ⟨v, rfl, h⟩ := rd1 r
    rw [rt_int h]
    exact ⟨_, rfl, w _ H (Same.refl H) rn_int⟩
  · exact w.elim

/-! ### sorted -/
def leS (a b : Str) : Bool := !decide (b.cps.toList < a.cps.toList)
def insS (x : Str) : List Str → List Str
  | [] => [x]
  | y :: r => if leS x y then x :: y :: r else y :: insS x r
def srtS : List Str → List Str
  | [] => []
  | x :: r => insS x (srtS r)
theorem insS_perm (x : Str) : ∀ l, (insS x l).Perm (x :: l)
  | [] => List.Perm.refl _
  | y :: r => by
    unfold insS
    split
    · exact List.Perm.refl _
    · exact ((insS_perm x r).cons y).trans (List.Perm.swap x y r)
theorem srtS_perm : ∀ l, (srtS l).Perm l
  | [] => List.Perm.refl _
  | x :: r => (insS_perm x _).trans ((srtS_perm r).cons x)
theorem cps_eq {a b : Str} (h : a.cps.toList = b.cps.toList) : a = b := by
  obtain ⟨⟨x⟩⟩ := a; obtain ⟨⟨y⟩⟩ := b; simp only at h; subst h; rfl
theorem leS_total (a b : Str) : leS a b = true ∨ leS b a = true := by
  unfold leS
  simp only [Bool.not_eq_true', decide_eq_false_iff_not]
  by_cases h : b.cps.toList < a.cps.toList
  · exact .inr (List.not_lt.mpr (List.le_of_lt h))
  · exact .inl h
theorem leS_antisymm {a b : Str} (h1 : leS a b = true) (h2 : leS b a = true) : a = b := by
  unfold leS at h1 h2
  simp only [Bool.not_eq_true', decide_eq_false_iff_not] at h1 h2
  exact cps_eq (List.le_antisymm (List.not_lt.mp h1) (List.not_lt.mp h2))
theorem leS_trans {a b c : Str} (h1 : leS a b = true) (h2 : leS b c = true) : leS a c = true := by
  unfold leS at *
  simp only [Bool.not_eq_true', decide_eq_false_iff_not] at *
  exact List.not_lt.mpr (List.le_trans (List.not_lt.mp h1) (List.not_lt.mp h2))
theorem insS_pw (x : Str) : ∀ l, l.Pairwise (fun a b => leS a b = true) → (insS x l).Pairwise (fun a b => leS a b = true)
  | [], _ => by simp [insS]
  | y :: r, h => by
    obtain ⟨h1, h2⟩ := List.pairwise_cons.mp h
    unfold insS
    split
    · rename_i hxy
      refine List.pairwise_cons.mpr ⟨fun z hz => ?_, h⟩
      rcases List.mem_cons.mp hz with rfl | hz
      · exact hxy
      · exact leS_trans hxy (h1 z hz)
    · rename_i hxy
      refine List.pairwise_cons.mpr ⟨fun z hz => ?_, insS_pw x r h2⟩
      rcases List.mem_cons.mp ((insS_perm x r).mem_iff.mp hz) with rfl | hz
      · exact (leS_total z y).resolve_left hxy
      · exact h1 z hz
theorem srtS_pw : ∀ l, (srtS l).Pairwise (fun a b => leS a b = true)
  | [] => List.Pairwise.nil
  | x :: r => insS_pw x _ (srtS_pw r)
theorem risingS_pw : ∀ (l : List Str) (p : Str), PyProof.Rows.risingS p l = true → (∀ x ∈ l, leS p x = true) ∧ l.Pairwise (fun a b => leS a b = true)
  | [], _, _ => ⟨fun _ h => by simp at h, .nil⟩
  | x :: r, p, h => by
    unfold PyProof.Rows.risingS at h
    rw [Bool.and_eq_true] at h
    obtain ⟨i1, i2⟩ := risingS_pw r x h.2
    have hp : leS p x = true := by
      unfold leS
      have := h.1
      rw [PyProof.Rows.ltCps_eq] at this
      exact this
    refine ⟨fun z hz => ?_, List.pairwise_cons.mpr ⟨i1, i2⟩⟩
    rcases List.mem_cons.mp hz with rfl | hz
    · exact hp
    · exact leS_trans hp (i1 z hz)
theorem sortedS_pw : ∀ (l : List Str), PyProof.Rows.sortedS l = true → l.Pairwise (fun a b => leS a b = true)
  | [], _ => .nil
  | x :: r, h => List.pairwise_cons.mpr (risingS_pw r x h)
theorem srtS_of {ys xs : List Str} (p : ys.Perm xs) (s : PyProof.Rows.sortedS ys = true) : ys = srtS xs :=
  (p.trans (srtS_perm xs).symm).eq_of_pairwise (fun a b _ _ h1 h2 => leS_antisymm h1 h2) (sortedS_pw ys s) (srtS_pw xs)
def sortedD : List D → R D
  | [.lst ts] => match asStrs ts with
    | some xs => if xs.length < 64 then .ok (.lst ((srtS xs).map T.str)) else .stuck
    | none => .stuck
  | [.dct kvs] => if kvs.length < 64 then .ok (.lst ((srtS (kvs.map (·.1))).map T.str)) else .stuck
  | _ => .stuck
def rSrtS (K : PySem.W.Frag) : List V → Hp → VK → Prop := fun xs H Q => rSortedS K xs H Q ∨ ∃ (a : Addr) (kvs : List (Key × V)) (ks : List Str), xs = [.ref a] ∧ Rd H a (.dK kvs) ∧ kvs.map (·.1) = ks.map Sum.inr ∧ ks.length < 64 ∧
    ∀ ys p, ys.Perm ks → PyProof.Rows.sortedS ys = true → H p = none → Q (.ref p) (upd H p (.lst (ys.map V.str)))
theorem cr_srtS (hc : X.calm = true) : CallR X (.builtin "sorted") (rSrtS X.K) := CallR.or cr_sortedS (call_sortedD hc)
theorem im_sorted : Impl1 X EX C sortedD (rSrtS X.K) := by
  intro ds vs H Q r w
  unfold sortedD at w
  split at w
  · split at w
    · rename_i xs hn
      split at w
      · rename_i h64
        obtain ⟨v, rfl, a, ys, rfl, ha, ra⟩ := rd1 r
        rw [asStrs_eq hn] at ra
        rw [ra.strs] at ha
        refine .inl ⟨a, xs, rfl, SqL.of ha, h64, fun zs p pm st hp => ?_⟩
        rw [srtS_of pm st]
        exact w _ _ (same_new hp _) (new_lst hp (RTs.ofStrs _))
      · exact w.elim
    · exact w.elim
  · rename_i kvs
    split at w
    · rename_i h64
      obtain ⟨v, rfl, a, rfl, ha⟩ := rd1 r
      refine .inr ⟨a, _, kvs.map (·.1), rfl, .inl ha, ?_, by rw [List.length_map]; exact h64, fun zs p pm st hp => ?_⟩
      · unfold dK; rw [List.map_map, List.map_map]; rfl
      · rw [srtS_of pm st]
        exact w _ _ (same_new hp _) (new_lst hp (RTs.ofStrs _))
    · exact w.elim
  · exact w.elim

/-! ### isinstance with a built-in class -/
def tyN : D → String
  | .t .non => "NoneType"
  | .t (.bl _) => "bool"
  | .t (.int _) => "int"
  | .t (.str _) => "str"
  | .t (.tup _) => "tuple"
  | .lst _ => "list"
  | .dct _ => "dict"
  | .scr _ => "?"
  | .sn _ _ => "?"
  | .pr _ _ => "?"
def unTy : D → Bool
  | .scr _ => true
  | .sn _ _ => true
  | .pr _ _ => true
  | _ => false
def isiD (T : String) (d : D) : R D := match d with
  | .scr _ => .stuck
  | .sn _ _ => .stuck
  | .pr _ _ => .stuck
  | d => match kitB (tyN d) T with
    | some b => .ok (.t (.bl b))
    | none => .stuck
theorem tyX_of {K : PySem.W.Frag} {H : Hp} {d : D} {v : V} (r : RD K H d v) (h : unTy d = false) : TyX K H v (.type (tyN d)) := by
  cases d with
  | t x =>
    cases x with
    | non => rw [rt_non r]; exact .base .non
    | bl b => rw [rt_bl r]; exact .base (.bl b)
    | int i => rw [rt_int r]; exact .base (.int i)
    | str i => rw [rt_str r]; exact .base (.str i)
    | tup ds =>
      obtain ⟨a, xs, rfl, ha, _⟩ := rt_tup r
      rcases ha with (ha | ⟨o, ha⟩) | ⟨o, its, n, h1, h2, _⟩
      · exact .base (.tup ha)
      · exact .fTuple ha
      · exact .kTuple h1 h2
  | lst ds => obtain ⟨a, xs, rfl, ha, _⟩ := r; exact .base (.lst ha)
  | dct kvs => obtain ⟨a, rfl, ha⟩ := r; exact .base (.dK ha)
  | scr ns => cases h
  | sn w ns => cases h
  | pr w ns => cases h
theorem sn_isi {T : String} {x : Str} {p1 p2 : Pos} (ha : SE X EX C a f) (hm : X.mg "isinstance" = none) (hmT : X.mg x = none) (hT : bootBuiltins x = some (.type T)) (hg : Gl X "isinstance" := by rfl) (hgT : Gl X x := by rfl)
    (hb : bootBuiltins "isinstance" = some (.builtin "isinstance") := by decide +kernel) (hn : x ≠ "__name__" := by decide) (hd : (x == ("__debug__" : Str)) = false := by decide)
    (h1 : starEach [a, .Name x p2] X.env = (false, eval a X.env) :: starEach [.Name x p2] X.env := by rfl) (h2 : starEach [.Name x p2] X.env = (false, eval (.Name x p2) X.env) :: starEach [] X.env := by rfl)
    (hpl : (backTo pos (starEach [.Name x p2] X.env)).any (·.1) = false := by rfl) :
    SN X EX C (.Call (.Name "isinstance" p1) [a, .Name x p2] [] pos) (fun ρ => f ρ >>= isiD T) := by
  obtain ⟨ta, pa, qa⟩ := ha
  refine ⟨_, pe_callB call_isi hg hm hb (pa_cons pa (pa_cons (pe_bltn (v := .ty T) hgT hmT hT rfl hn hd) pa_nil h2) h1) (by decide) (by decide) h1 hpl, fun F σ H ρ Q er w => ?_⟩
  refine qa F σ H ρ _ er (w.bind.imp fun d _ k v H1 s1 r1 => ?_)
  show rIsi X.K [v, .ty T] H1 Q
  have k' : ∃ c, unTy d = false ∧ kitB (tyN d) T = some c ∧ ∀ v H', Same H H' → RN X.K H H' (.t (.bl c)) v → Q v H' := by
    unfold isiD at k
    split at k
    · exact k.elim
    · exact k.elim
    · exact k.elim
    · rename_i hd hd2 hd3
      split at k
      · rename_i c hc
        exact ⟨c, by cases d with
          | scr ns => exact (hd ns rfl).elim
          | sn w ns => exact (hd2 w ns rfl).elim
          | pr w ns => exact (hd3 w ns rfl).elim
          | _ => rfl, hc, k⟩
      · exact k.elim
  obtain ⟨c, n1, hc, k⟩ := k'
  exact ⟨v, .ty T, _, _, c, rfl, .ty T, tyX_of r1 n1, kit_ty hc, k _ H1 s1 rn_bl⟩

/-! ### slices -/
def SO (X : Cx) (EX : XK) (C : Nat → Addr) (e : Option Expr) (f : Ev → R (Option Int)) : Prop :=
  ∃ to, PO X e to ∧ ∀ F σ H ρ (Q : Option Int → Hp → Prop), ER X.K F σ H ρ → Wp EX C H (f ρ) (fun o => ∀ H', Same H H' → Q o H') → to σ H Q
theorem so_none : SO X EX C none (fun _ => .ok none) := ⟨_, po_none, fun F σ H ρ Q er w => w H (Same.refl H)⟩
def asInt : D → R (Option Int)
  | .t (.int i) => .ok (some i)
  | _ => .stuck
theorem so_some (ha : SE X EX C a f) : SO X EX C (some a) (fun ρ => f ρ >>= asInt) := by
  obtain ⟨ta, pa, qa⟩ := ha
  refine ⟨_, po_some pa, fun F σ H ρ Q er w => ?_⟩
  refine qa F σ H ρ _ er (w.bind.imp fun d _ k v H1 s1 r1 => ?_)
  unfold asInt at k
  split at k
  · rw [rt_int r1]; exact ⟨_, rfl, k H1 s1⟩
  · exact k.elim
def cutT (xs : List T) (lo hi : Option Int) : List T := (xs.drop (HT.sIx xs.length 0 lo)).take (HT.sIx xs.length xs.length hi - HT.sIx xs.length 0 lo)
theorem RTs.cut {K : PySem.W.Frag} {H : Hp} {ds : List T} {vs : List V} (r : RTs K H ds vs) (lo hi : Option Int) : RTs K H (cutT ds lo hi) (cutV vs lo hi) := by
  unfold cutT cutV
  rw [r.length]
  exact (r.drop _).take _
def slD (d : D) (lo hi : Option Int) : R D := match d with
  | .lst xs => .ok (.lst (cutT xs lo hi))
  | .t (.tup xs) => .ok (.t (.tup (cutT xs lo hi)))
  | .t (.str z) => if z.length ≤ 16777216 then .ok (.t (.str (cutS z lo hi))) else .stuck
  | _ => .stuck
def rSlAll (K : PySem.W.Frag) : V → Option Int → Option Int → Hp → VK → Prop := fun x lo hi H Q => rSlL K x lo hi H Q ∨ rSlA K x lo hi H Q ∨ rSlS x lo hi H Q
theorem sl_all : SlR X (rSlAll X.K) := SlR.or sl_list (SlR.or sl_tupA sl_str)
theorem cut_whole {xs : List T} {lo hi : Option Int} (h : HT.sIx xs.length 0 lo = 0 ∧ HT.sIx xs.length xs.length hi = xs.length) : cutT xs lo hi = xs := by
  unfold cutT; rw [h.1, h.2]; simp
theorem im_sl {d : D} {lo hi : Option Int} {v : V} {H : Hp} {Q : VK} (r : RD X.K H d v) (w : WN X.K EX C H (slD d lo hi) Q) : rSlAll X.K v lo hi H Q := by
  unfold slD at w
  split at w
  · obtain ⟨a, xs, rfl, ha, ra⟩ := r
    exact .inl ⟨a, xs, rfl, SqL.of ha, fun p hp => w _ _ (same_new hp _) (new_lst hp (ra.cut _ _))⟩
  · obtain ⟨a, xs, rfl, ha, ra⟩ := rt_tup r
    refine .inr (.inl ⟨a, xs, rfl, ha, fun e => ?_, fun _ p hp => w _ _ (same_new hp _) (new_tup hp (ra.cut _ _))⟩)
    rw [ra.length] at e
    rw [cut_whole e] at w
    exact w _ H (Same.refl H) (rn_tup ha ra)
  · split at w
    · rename_i hz
      rw [rt_str r]
      exact .inr (.inr ⟨_, rfl, by rw [sizeLine_eq]; exact hz, w _ H (Same.refl H) rn_str⟩)
    · exact w.elim
  · exact w.elim
theorem sn_slice {lo hi : Option Expr} {fl fh : Ev → R (Option Int)} {p2 : Pos} (ha : SE X EX C a f) (hl : SO X EX C lo fl) (hh : SO X EX C hi fh) :
    SN X EX C (.Subscript a (.Slice lo hi none p2) pos) (fun ρ => f ρ >>= fun d => fl ρ >>= fun l => fh ρ >>= fun h => slD d l h) := by
  obtain ⟨ta, pa, qa⟩ := ha
  obtain ⟨tl, pl, ql⟩ := hl
  obtain ⟨th, ph, qh⟩ := hh
  refine ⟨_, pe_slice sl_all pa pl ph, fun F σ H ρ Q er w => ?_⟩
  refine qa F σ H ρ _ er (w.bind.imp fun d _ k v H1 s1 r1 => ?_)
  refine ql F σ H1 ρ _ (er.mono s1) ((Wp.bind k).mono s1 fun l _ k2 H2 s2 => ?_)
  refine qh F σ H2 ρ _ (er.mono (s1.trans s2)) ((Wp.bind k2).mono (s1.trans s2) fun h _ k3 H3 s3 => ?_)
  exact im_sl ((r1.same s2).same s3) (WN.move k3 ((s1.trans s2).trans s3))

/-! ### tests -/
def asB : D → R Bool
  | .t (.bl b) => .ok b
  | _ => .stuck
theorem st_val (ha : SE X EX C a f) (he : ∀ whole, isTrue a X.env whole = (do let v ← whole; standAt a.pos; holding [v] (truthy v)) := by intro _; rfl) : ST X EX C a (fun ρ => f ρ >>= asB) := by
  obtain ⟨ta, pa, qa⟩ := ha
  refine ⟨_, pt_val pa he, fun F σ H ρ Q er w => ?_⟩
  refine qa F σ H ρ _ er (w.bind.imp fun d _ k v H1 s1 r1 => ?_)
  unfold asB at k
  split at k
  · rw [rt_bl r1]; exact ⟨_, rfl, k H1 s1⟩
  · exact k.elim
def SW (X : Cx) (EX : XK) (C : Nat → Addr) (e : Expr) (f : Ev → R Bool) : Prop :=
  ∃ te, PW X e te ∧ ∀ F σ H ρ Q, ER X.K F σ H ρ → WB EX C H (f ρ) Q → te σ H Q
theorem SW.st {f : Ev → R Bool} (h : SW X EX C a f) : ST X EX C a f := by
  obtain ⟨te, p, q⟩ := h
  exact ⟨te, p.pt, q⟩
theorem sw_and1 {f : Ev → R Bool} (ha : ST X EX C a f) : SW X EX C (.BoolOp .And [a] pos) f := by
  obtain ⟨ta, pa, qa⟩ := ha
  exact ⟨ta, pw_and1 pa, qa⟩
theorem sw_or1 {f : Ev → R Bool} (ha : ST X EX C a f) : SW X EX C (.BoolOp .Or [a] pos) f := by
  obtain ⟨ta, pa, qa⟩ := ha
  exact ⟨ta, pw_or1 pa, qa⟩
def andR (x y : R Bool) : R Bool := x >>= fun b => if b then y else .ok false
def orR (x y : R Bool) : R Bool := x >>= fun b => if b then .ok true else y
theorem sw_and {rest : List Expr} {f g : Ev → R Bool} (ha : ST X EX C a f) (hb : SW X EX C (.BoolOp .And (b :: rest) pos) g) : SW X EX C (.BoolOp .And (a :: b :: rest) pos) (fun ρ => andR (f ρ) (g ρ)) := by
  obtain ⟨ta, pa, qa⟩ := ha
  obtain ⟨tb, pb, qb⟩ := hb
  refine ⟨_, pw_and pa pb, fun F σ H ρ Q er w => ?_⟩
  refine qa F σ H ρ _ er ((Wp.bind w).imp fun d _ k H1 s1 => ?_)
  cases d with
  | true => exact iteT (qb F σ H1 ρ Q (er.mono s1) (WB.move k s1))
  | false => exact iteF (k H1 s1)
theorem sw_or {rest : List Expr} {f g : Ev → R Bool} (ha : ST X EX C a f) (hb : SW X EX C (.BoolOp .Or (b :: rest) pos) g) : SW X EX C (.BoolOp .Or (a :: b :: rest) pos) (fun ρ => orR (f ρ) (g ρ)) := by
  obtain ⟨ta, pa, qa⟩ := ha
  obtain ⟨tb, pb, qb⟩ := hb
  refine ⟨_, pw_or pa pb, fun F σ H ρ Q er w => ?_⟩
  refine qa F σ H ρ _ er ((Wp.bind w).imp fun d _ k H1 s1 => ?_)
  cases d with
  | true => exact iteT (k H1 s1)
  | false => exact iteF (qb F σ H1 ρ Q (er.mono s1) (WB.move k s1))
theorem st_not {f : Ev → R Bool} (ha : ST X EX C a f) : ST X EX C (.UnaryOp .Not a pos) (fun ρ => f ρ >>= fun b => .ok (!b)) := by
  obtain ⟨ta, pa, qa⟩ := ha
  refine ⟨_, pt_not pa, fun F σ H ρ Q er w => ?_⟩
  exact qa F σ H ρ _ er (w.bind.imp fun d _ k H1 s1 => k H1 s1)
/-! .. as values -/
theorem sn_one {op} (ha : SN X EX C a f) : SN X EX C (.BoolOp op [a] pos) f := by
  obtain ⟨ta, pa, qa⟩ := ha
  exact ⟨ta, pe_one pa, qa⟩
def andV (x y : R D) : R D := x >>= asB >>= fun b => if b then y else .ok (.t (.bl false))
def orV (x y : R D) : R D := x >>= asB >>= fun b => if b then .ok (.t (.bl true)) else y
theorem sn_and {rest : List Expr} (ha : SE X EX C a f) (hb : SN X EX C (.BoolOp .And (b :: rest) pos) g) : SN X EX C (.BoolOp .And (a :: b :: rest) pos) (fun ρ => andV (f ρ) (g ρ)) := by
  obtain ⟨ta, pa, qa⟩ := ha
  obtain ⟨tb, pb, qb⟩ := hb
  refine ⟨_, pe_and pa pb, fun F σ H ρ Q er w => ?_⟩
  refine qa F σ H ρ _ er ((Wp.bind (Wp.bind w)).imp fun d _ k v H1 s1 r1 => ?_)
  unfold asB at k
  split at k
  · rename_i c _
    rw [rt_bl r1]
    refine ⟨c, rfl, ?_⟩
    cases c with
    | true => exact iteT (qb F σ H1 ρ Q (er.mono s1) (WN.move k s1))
    | false => exact iteF (k _ H1 s1 rn_bl)
  · exact k.elim
theorem sn_or {rest : List Expr} (ha : SE X EX C a f) (hb : SN X EX C (.BoolOp .Or (b :: rest) pos) g) : SN X EX C (.BoolOp .Or (a :: b :: rest) pos) (fun ρ => orV (f ρ) (g ρ)) := by
  obtain ⟨ta, pa, qa⟩ := ha
  obtain ⟨tb, pb, qb⟩ := hb
  refine ⟨_, pe_or pa pb, fun F σ H ρ Q er w => ?_⟩
  refine qa F σ H ρ _ er ((Wp.bind (Wp.bind w)).imp fun d _ k v H1 s1 r1 => ?_)
  unfold asB at k
  split at k
  · rename_i c _
    rw [rt_bl r1]
    refine ⟨c, rfl, ?_⟩
    cases c with
    | true => exact iteT (k _ H1 s1 rn_bl)
    | false => exact iteF (qb F σ H1 ρ Q (er.mono s1) (WN.move k s1))
  · exact k.elim
theorem sn_not (ha : SE X EX C a f) : SN X EX C (.UnaryOp .Not a pos) (fun ρ => f ρ >>= asB >>= fun b => .ok (.t (.bl (!b)))) := by
  obtain ⟨ta, pa, qa⟩ := ha
  refine ⟨_, pe_not pa, fun F σ H ρ Q er w => ?_⟩
  refine qa F σ H ρ _ er ((Wp.bind (Wp.bind w)).imp fun d _ k v H1 s1 r1 => ?_)
  unfold asB at k
  split at k
  · rename_i c _
    rw [rt_bl r1]
    exact ⟨c, rfl, k _ H1 s1 rn_bl⟩
  · exact k.elim

/-! ### names of the module -/
theorem sn_glob {x : Str} {t : T} {v : V} {u : Value} (hm : X.mg x = some u) (r : RelV v u) (ht : ∀ H, RT X.K H t v) (hg : Gl X x := by rfl) (hd : (x == ("__debug__" : Str)) = false := by decide) : SN X EX C (.Name x pos) (fun _ => .ok (.t t)) :=
  ⟨_, pe_glob hg hm r hd, fun F σ H ρ Q er w => w v H (Same.refl H) (ht H)⟩

/-! ### methods -/
def asDct : D → R (List (Str × Int))
  | .dct kvs => .ok kvs
  | _ => .stuck
def dget2 (kvs : List (Str × Int)) (k x : D) : R D := match k, x with
  | .t (.str k), .t (.int i) => .ok (.t (.int (match kvs.find? (fun q => decide (q.1 = k)) with | some p => p.2 | none => i)))
  | _, _ => .stuck
theorem im_dget2 {kvs : List (Str × Int)} {d1 d2 : D} {a : Addr} {v1 v2 : V} {H : Hp} {Q : VK} (ha : H a = some (.dK (dK kvs))) (r1 : RD X.K H d1 v1) (r2 : RD X.K H d2 v2) (w : WN X.K EX C H (dget2 kvs d1 d2) Q) : ∃ o, DGet H a v1 o ∧ Q (o.getD v2) H := by
  unfold dget2 at w
  split at w
  · rename_i k i
    rw [rt_str r1, rt_int r2]
    refine ⟨_, DGet.k (k := Sum.inr k) ha, ?_⟩
    rw [valV_dK]
    have q := w _ H (Same.refl H) rn_int
    cases e : kvs.find? (fun q => decide (q.1 = k)) with
    | none => rw [e] at q; exact q
    | some p => rw [e] at q; exact q
  · exact w.elim
theorem sn_dget2 {c : Expr} {h : Ev → R D} {apos : Pos} (hu : X.A.units + 1 < cLine) (ha : SE X EX C a f) (hb : SE X EX C b g) (hc : SE X EX C c h) (m : M2 X a "get" apos b c pos := by exact ⟨rfl, rfl, rfl, rfl⟩) :
    SN X EX C (.Call (.Attribute a "get" apos) [b, c] [] pos) (fun ρ => f ρ >>= asDct >>= fun d => g ρ >>= fun k => h ρ >>= fun x => dget2 d k x) := by
  obtain ⟨ta, pa, qa⟩ := ha
  obtain ⟨tb, pb, qb⟩ := hb
  obtain ⟨tc, pc, qc⟩ := hc
  refine ⟨_, pe_dget2 hu pa pb pc m, fun F σ H ρ Q er w => ?_⟩
  refine qa F σ H ρ _ er ((Wp.bind (Wp.bind w)).imp fun d _ k v H1 s1 r1 => ?_)
  cases d with
  | dct kvs =>
    obtain ⟨p, rfl, hp⟩ := r1
    have k : Wp EX C H (g ρ >>= fun k => h ρ >>= fun x => dget2 kvs k x) (fun d => ∀ v H', Same H H' → RN X.K H H' d v → Q v H') := k
    refine ⟨p, rfl, .inl ⟨_, .inl hp⟩, ?_⟩
    refine qb F σ H1 ρ _ (er.mono s1) ((Wp.bind k).mono s1 fun d1 _ k1 v1 H2 s2 r2 => ?_)
    refine qc F σ H2 ρ _ (er.mono (s1.trans s2)) ((Wp.bind k1).mono (s1.trans s2) fun d2 _ k2 v2 H3 s3 r3 => ?_)
    obtain ⟨o, h1, h2⟩ := im_dget2 (s3 _ _ (s2 _ _ hp)) (r2.same s3) r3 (WN.move k2 ((s1.trans s2).trans s3))
    exact ⟨o, h1, h2⟩
  | t x => exact k.elim
  | lst x => exact k.elim
  | scr x => exact k.elim
  | sn w x => exact k.elim
  | pr w x => exact k.elim
end
end Pf

set_option Elab.async false
set_option linter.all false
set_option maxRecDepth 100000
set_option maxHeartbeats 2000000
namespace Pf
open PySem L2

/-! ## statements -/
inductive Out where
  | nx (ρ : Ev) | bk (ρ : Ev) | ct (ρ : Ev) | rt (d : D)
def TupLe (K : PySem.W.Frag) (H H' : Hp) : Prop := ∀ a xs, SqT K H a xs → SqT K H' a xs
theorem TupLe.refl {K : PySem.W.Frag} (H : Hp) : TupLe K H H := fun _ _ h => h
theorem TupLe.trans {K : PySem.W.Frag} {H H1 H2 : Hp} (a : TupLe K H H1) (b : TupLe K H1 H2) : TupLe K H H2 := fun c xs h => b c xs (a c xs h)
theorem Same.tups {K : PySem.W.Frag} {H H' : Hp} (e : Same H H') : TupLe K H H' := fun _ _ h => Same.sqT e h
def WS (K : PySem.W.Frag) (EX : XK) (C : Nat → Addr) (F H : Hp) (D : Ends) : R Out → Prop
  | .ok (.nx ρ) => ∀ F' σ' H', Same F F' → TupLe K H H' → ER K F' σ' H' ρ → D.nx σ' H'
  | .ok (.bk ρ) => ∀ F' σ' H', Same F F' → TupLe K H H' → ER K F' σ' H' ρ → D.bk σ' H'
  | .ok (.ct ρ) => ∀ F' σ' H', Same F F' → TupLe K H H' → ER K F' σ' H' ρ → D.ct σ' H'
  | .ok (.rt d) => ∀ v H', Same F H' → RN K F H' d v → D.rt v H'
  | .raise c => ∀ H', Same F H' → EX (.ref (C c)) none H'
  | .stuck => False
def SS (X : Cx) (EX : XK) (C : Nat → Addr) (st : Stmt) (g : Ev → R Out) : Prop :=
  ∃ ts, PS X st ts ∧ ∀ F σ H ρ D, ER X.K F σ H ρ → WS X.K EX C F H D (g ρ) → ts D σ H
def SB (X : Cx) (EX : XK) (C : Nat → Addr) (sts : List Stmt) (g : Ev → R Out) : Prop :=
  ∃ ts, PSs X sts ts ∧ ∀ F σ H ρ D, ER X.K F σ H ρ → WS X.K EX C F H D (g ρ) → ts D σ H
section
variable {K : PySem.W.Frag} {EX : XK} {C : Nat → Addr} {F F' H H' : Hp} {D D' : Ends}
theorem WS.grow {r : R Out} (w : WS K EX C F H D r) (e : Same F F') (t : TupLe K H H') : WS K EX C F' H' D r := by
  cases r with
  | ok o =>
    cases o with
    | nx ρ => exact fun F2 σ2 H2 e2 t2 er => w F2 σ2 H2 (e.trans e2) (t.trans t2) er
    | bk ρ => exact fun F2 σ2 H2 e2 t2 er => w F2 σ2 H2 (e.trans e2) (t.trans t2) er
    | ct ρ => exact fun F2 σ2 H2 e2 t2 er => w F2 σ2 H2 (e.trans e2) (t.trans t2) er
    | rt d => exact fun v H2 e2 r => w v H2 (e.trans e2) (r.less e)
  | raise c => exact fun H2 e2 => w H2 (e.trans e2)
  | stuck => exact w
/-- an expression ahead of a statement's rest -/
theorem WS.bind {α : Type} {r : R α} {g : α → R Out} (w : WS K EX C F H D (r >>= g)) (hF : Same F H) : Wp EX C H r (fun a => WS K EX C F H D (g a)) := by
  cases r with
  | ok a => exact w
  | raise c => exact fun H2 e2 => w H2 (hF.trans e2)
  | stuck => exact w
end
@[simp] def seqO (g1 g2 : Ev → R Out) (ρ : Ev) : R Out := g1 ρ >>= fun o => match o with
  | .nx ρ' => g2 ρ'
  | o => .ok o
section
variable {X : Cx} {EX : XK} {C : Nat → Addr} {a b : Expr} {f g : Ev → R D} {pos : Pos}
theorem sb_nil : SB X EX C [] (fun ρ => .ok (.nx ρ)) := ⟨_, pss_nil, fun F σ H ρ D er w => w F σ H (Same.refl F) (TupLe.refl H) er⟩
theorem sb_cons {st : Stmt} {sts : List Stmt} {g1 g2 : Ev → R Out} (h1 : SS X EX C st g1) (h2 : SB X EX C sts g2) : SB X EX C (st :: sts) (seqO g1 g2) := by
  obtain ⟨t1, p1, q1⟩ := h1
  obtain ⟨t2, p2, q2⟩ := h2
  refine ⟨_, pss_cons p1 p2, fun F σ H ρ D er w => ?_⟩
  refine q1 F σ H ρ _ er ?_
  unfold seqO at w
  cases e : g1 ρ with
  | ok o =>
    rw [e] at w
    cases o with
    | nx ρ' => exact fun F' σ' H' e' t' er' => q2 F' σ' H' ρ' D er' (WS.grow w e' t')
    | bk ρ' => exact w
    | ct ρ' => exact w
    | rt d => exact w
  | raise c => rw [e] at w; exact w
  | stuck => rw [e] at w; exact w.elim
theorem sb_one {st : Stmt} {g1 : Ev → R Out} (h1 : SS X EX C st g1) : SB X EX C [st] g1 := by
  obtain ⟨t1, p1, q1⟩ := h1
  exact ⟨t1, pss_one p1, q1⟩
theorem ss_pass : SS X EX C (.Pass pos) (fun ρ => .ok (.nx ρ)) := ⟨_, ps_pass, fun F σ H ρ D er w => w F σ H (Same.refl F) (TupLe.refl H) er⟩
theorem ss_never {st : Stmt} : SS X EX C st (fun _ => .stuck) := ⟨_, ps_never, fun F σ H ρ D er w => w.elim⟩
/-- x = e -/
@[simp] def setO (i : Nat) (f : Ev → R D) (ρ : Ev) : R Out := f ρ >>= fun d => .ok (.nx (ρ.set i (.d d true)))
theorem ss_set {i : Nat} {x : Str} {e : Expr} {pos' : Pos} (he : SN X EX C e f) (hN : X.N.Nodup) (hi : X.N[i]? = some x := by rfl) (hx : Loc X.env.scope x := by first | exact Or.inl rfl | exact Or.inr rfl) (hs : swapsWith e (some (.Name x pos')) pos.line X.env = pure false := by rfl)
    (hf : X.fn x = true ∨ X.env.scope.names.lookup x = some .local := by first | exact .inl rfl | exact .inr rfl | assumption) : SS X EX C (.Assign [.Name x pos'] e pos) (setO i f) := by
  obtain ⟨te, pe, qe⟩ := he
  refine ⟨_, ps_set hN hi hx pe hs hf, fun F σ H ρ D er w => ?_⟩
  refine qe F σ H ρ _ er ((WS.bind w er.same).imp fun d _ k v H1 s1 r1 => ?_)
  exact k F _ H1 (Same.refl F) (Same.tups s1) (er.store s1 r1)
/-- return e -/
@[simp] def retO (f : Ev → R D) (ρ : Ev) : R Out := f ρ >>= fun d => .ok (.rt d)
theorem ss_ret {e : Expr} (he : SN X EX C e f) : SS X EX C (.Return (some e) pos) (retO f) := by
  obtain ⟨te, pe, qe⟩ := he
  refine ⟨_, ps_ret pe, fun F σ H ρ D er w => ?_⟩
  refine qe F σ H ρ _ er ((WS.bind w er.same).imp fun d _ k v H1 s1 r1 => ?_)
  exact k v H1 (er.same.trans s1) (r1.less er.same)
/-- return x, x an own list -/
def retN (i : Nat) (ρ : Ev) : R Out := match ρ[i]? with
  | some (.d x true) => .ok (.rt x)
  | some (.d (.t x) false) => .ok (.rt (.t x))
  | _ => .stuck
theorem ss_retN {i : Nat} {x : Str} {p : Pos} (pv : PE X (.Name x p) (tVar i)) : SS X EX C (.Return (some (.Name x p)) pos) (retN i) := by
  refine ⟨_, ps_ret pv, fun F σ H ρ D er w => ?_⟩
  unfold retN at w
  split at w
  · rename_i d h
    obtain ⟨v, h1, h2, _⟩ := er.slot _ _ _ h
    exact ⟨v, h1, w v H er.same (h2 rfl)⟩
  · rename_i d h
    obtain ⟨v, h1, _, h2⟩ := er.slot _ _ _ h
    exact ⟨v, h1, w v H er.same (h2 rfl)⟩
  · exact w.elim
theorem ss_ret0 : SS X EX C (.Return none pos) (fun _ => .ok (.rt (.t .non))) := ⟨_, ps_retN, fun F σ H ρ D er w => w .non H er.same (by show RT _ _ _ _; unfold RT; rfl)⟩
theorem ss_brk : SS X EX C (.Break pos) (fun ρ => .ok (.bk ρ)) := ⟨_, ps_break, fun F σ H ρ D er w => w F σ H (Same.refl F) (TupLe.refl H) er⟩
theorem ss_ctn : SS X EX C (.Continue pos) (fun ρ => .ok (.ct ρ)) := ⟨_, ps_continue, fun F σ H ρ D er w => w F σ H (Same.refl F) (TupLe.refl H) er⟩
/-- e alone -/
@[simp] def exprO (f : Ev → R D) (ρ : Ev) : R Out := f ρ >>= fun _ => .ok (.nx ρ)
theorem ss_expr {e : Expr} (he : SE X EX C e f) (hs : swapsWith e none pos.line X.env = pure false := by rfl) : SS X EX C (.Expr e pos) (exprO f) := by
  obtain ⟨te, pe, qe⟩ := he
  refine ⟨_, ps_expr pe hs, fun F σ H ρ D er w => ?_⟩
  refine qe F σ H ρ _ er ((WS.bind w er.same).imp fun d _ k v H1 s1 r1 => ?_)
  exact k F σ H1 (Same.refl F) (Same.tups s1) (er.mono s1)
/-- if -/
@[simp] def ifO (c : Ev → R Bool) (g1 g2 : Ev → R Out) (ρ : Ev) : R Out := c ρ >>= fun b => if b then g1 ρ else g2 ρ
theorem ss_if {e : Expr} {s1 s2 : List Stmt} {c : Ev → R Bool} {g1 g2 : Ev → R Out} (hc : ST X EX C e c) (h1 : SB X EX C s1 g1) (h2 : SB X EX C s2 g2) : SS X EX C (.If e s1 s2 pos) (ifO c g1 g2) := by
  obtain ⟨tc, pc, qc⟩ := hc
  obtain ⟨t1, p1, q1⟩ := h1
  obtain ⟨t2, p2, q2⟩ := h2
  refine ⟨_, ps_if pc p1 p2, fun F σ H ρ D er w => ?_⟩
  refine qc F σ H ρ _ er ((WS.bind w er.same).imp fun b _ k H1 s1 => ?_)
  cases b with
  | true => exact iteT (q1 F σ H1 ρ D (er.mono s1) (WS.grow k (Same.refl F) (Same.tups s1)))
  | false => exact iteF (q2 F σ H1 ρ D (er.mono s1) (WS.grow k (Same.refl F) (Same.tups s1)))

/-! ### own lists and dicts are written -/
def appO (i : Nat) (f : Ev → R D) (ρ : Ev) : R Out := match ρ[i]? with
  | some (.d (.lst xs) true) => f ρ >>= fun d => match d with
    | .t x => if xs.length < 16777216 then .ok (.nx (ρ.set i (.d (.lst (xs ++ [x])) true))) else .stuck
    | _ => .stuck
  | _ => .stuck
theorem RN.lstApp {K : PySem.W.Frag} {F H : Hp} {a : Addr} {xs : List V} {ds : List T} {v : V} {x : T} (hF : F a = none) (ha : H a = some (.lst xs)) (r : RTs K H ds xs) (rv : RT K H x v) : RN K F (upd H a (.lst (xs ++ [v]))) (.lst (ds ++ [x])) (.ref a) :=
  ⟨a, _, rfl, hF, upd_same, (r.append (RTs.cons rv RTs.nil)).upd ha trivial⟩
theorem upd_tups {K : PySem.W.Frag} {H : Hp} {a : Addr} {o o' : HO} (ha : H a = some o) (n : NoTup o) : TupLe K H (upd H a o') := fun _ _ h => sqT_upd ha n h
theorem ss_app {i : Nat} {x : Str} {p apos cpos : Pos} {e : Expr} (hv : PE X (.Name x p) (tVar i)) (he : SE X EX C e f)
    (hs : swapsWith (.Call (.Attribute (.Name x p) "append" apos) [e] [] cpos) none pos.line X.env = pure false := by rfl)
    (hbase : attributeBase (.Name x p) "append" X.env (eval (.Name x p) X.env) = eval (.Name x p) X.env := by rfl)
    (hfew : ((backTo cpos (starEach [e] X.env)).all (fun x => !x.1) && (backToKw cpos (keywordEach [] X.env)).all (fun x => x.1.isSome)
      && decide (([e] : List Expr).length + ([] : List Keyword).length + (if ([] : List Keyword).isEmpty then 0 else 1) < 30)) = true := by rfl)
    (hline : (apos.endLine == cpos.line) = true := by rfl) (h1 : starEach [e] X.env = (false, eval e X.env) :: starEach [] X.env := by rfl) (hpl : (backTo cpos (starEach [] X.env)).any (·.1) = false := by rfl) :
    SS X EX C (.Expr (.Call (.Attribute (.Name x p) "append" apos) [e] [] cpos) pos) (appO i f) := by
  obtain ⟨te, pe, qe⟩ := he
  refine ⟨_, ps_expr (pe_bm PySem.F.plainAttrs_list PySem.F.slot_list_append PySem.F.type_list_append mt_append hv (pa_cons pe pa_nil h1) hbase hfew hline h1 hpl) hs, fun F σ H ρ D er w => ?_⟩
  unfold appO at w
  split at w
  · rename_i xs h
    obtain ⟨v, g1, g2, _⟩ := er.slot _ _ _ h
    obtain ⟨a, us, rfl, hF, ha, ra⟩ := g2 rfl
    refine ⟨.ref a, g1, .inl ⟨rfl, us, SqL.of ha⟩, ?_⟩
    refine qe F σ H ρ _ er ((WS.bind w er.same).imp fun d _ k u H1 s1 r1 => ?_)
    cases d with
    | t x =>
      have k : WS X.K EX C F H D (if xs.length < 16777216 then .ok (.nx (ρ.set i (.d (.lst (xs ++ [x])) true))) else .stuck) := k
      split at k
      · rename_i hz
        refine ⟨a, us, u, rfl, rfl, s1 _ _ ha, by rw [ra.length, sizeLine_eq]; exact hz, ?_⟩
        exact k F σ _ (Same.refl F) ((Same.tups s1).trans (upd_tups (s1 _ _ ha) trivial)) ((er.mono s1).wrote h (fun z e => by cases e) g1 hF (s1 _ _ ha) trivial (RN.lstApp hF (s1 _ _ ha) (ra.same s1) r1))
      · exact k.elim
    | _ => exact k.elim
  · exact w.elim
/-- x.extend(e) -/
def extO (i : Nat) (f : Ev → R D) (ρ : Ev) : R Out := match ρ[i]? with
  | some (.d (.lst xs) true) => f ρ >>= fun d => match d with
    | .lst ys => if xs.length + ys.length ≤ 16777216 then .ok (.nx (ρ.set i (.d (.lst (xs ++ ys)) true))) else .stuck
    | _ => .stuck
  | _ => .stuck
theorem ss_ext {i : Nat} {x : Str} {p apos cpos : Pos} {e : Expr} (hv : PE X (.Name x p) (tVar i)) (he : SE X EX C e f)
    (hs : swapsWith (.Call (.Attribute (.Name x p) "extend" apos) [e] [] cpos) none pos.line X.env = pure false := by rfl)
    (hbase : attributeBase (.Name x p) "extend" X.env (eval (.Name x p) X.env) = eval (.Name x p) X.env := by rfl)
    (hfew : ((backTo cpos (starEach [e] X.env)).all (fun x => !x.1) && (backToKw cpos (keywordEach [] X.env)).all (fun x => x.1.isSome)
      && decide (([e] : List Expr).length + ([] : List Keyword).length + (if ([] : List Keyword).isEmpty then 0 else 1) < 30)) = true := by rfl)
    (hline : (apos.endLine == cpos.line) = true := by rfl) (h1 : starEach [e] X.env = (false, eval e X.env) :: starEach [] X.env := by rfl) (hpl : (backTo cpos (starEach [] X.env)).any (·.1) = false := by rfl) :
    SS X EX C (.Expr (.Call (.Attribute (.Name x p) "extend" apos) [e] [] cpos) pos) (extO i f) := by
  obtain ⟨te, pe, qe⟩ := he
  refine ⟨_, ps_expr (pe_bm PySem.F.plainAttrs_list PySem.F.slot_list_extend PySem.F.type_list_extend mt_extend hv (pa_cons pe pa_nil h1) hbase hfew hline h1 hpl) hs, fun F σ H ρ D er w => ?_⟩
  unfold extO at w
  split at w
  · rename_i xs h
    obtain ⟨v, g1, g2, _⟩ := er.slot _ _ _ h
    obtain ⟨a, us, rfl, hF, ha, ra⟩ := g2 rfl
    refine ⟨.ref a, g1, .inl ⟨rfl, us, SqL.of ha⟩, ?_⟩
    refine qe F σ H ρ _ er ((WS.bind w er.same).imp fun d _ k u H1 s1 r1 => ?_)
    cases d with
    | lst ys =>
      have k : WS X.K EX C F H D (if xs.length + ys.length ≤ 16777216 then .ok (.nx (ρ.set i (.d (.lst (xs ++ ys)) true))) else .stuck) := k
      obtain ⟨b, ws, rfl, hb, rb⟩ := r1
      split at k
      · rename_i hz
        refine ⟨a, b, us, ws, rfl, rfl, s1 _ _ ha, hb, by rw [ra.length, rb.length, sizeLine_eq]; exact hz, ?_⟩
        exact k F σ _ (Same.refl F) ((Same.tups s1).trans (upd_tups (s1 _ _ ha) trivial)) ((er.mono s1).wrote h (fun z e => by cases e) g1 hF (s1 _ _ ha) trivial ⟨a, _, rfl, hF, upd_same, ((ra.same s1).append rb).upd (s1 _ _ ha) trivial⟩)
      · exact k.elim
    | _ => exact k.elim
  · exact w.elim
/-- d[k] = v, k a text, v an int -/
def putL (kvs : List (Str × Int)) (k : Str) (v : Int) : List (Str × Int) := if kvs.any (fun p => decide (p.1 = k)) then kvs.map fun p => if p.1 = k then (p.1, v) else p else kvs ++ [(k, v)]
theorem putK_dK (kvs : List (Str × Int)) (k : Str) (v : Int) : putK (dK kvs) (Sum.inr k) (V.int v) = dK (putL kvs k v) := by
  unfold putK putL
  have e : ((dK kvs).any fun kv => decide (kv.1 = (Sum.inr k : Key))) = kvs.any fun p => decide (p.1 = k) := by
    unfold dK
    rw [List.any_map]
    congr 1
    funext p
    simp
  rw [e]
  split
  · unfold dK
    rw [List.map_map, List.map_map]
    congr 1
    funext p
    by_cases h : p.1 = k <;> simp [h]
  · unfold dK; rw [List.map_append]; rfl
def dputO (i : Nat) (fk fv : Ev → R D) (ρ : Ev) : R Out := fv ρ >>= fun v => match ρ[i]? with
  | some (.d (.dct kvs) true) => fk ρ >>= fun k => match k, v with
    | .t (.str k), .t (.int v) => if kvs.length < 16777216 then .ok (.nx (ρ.set i (.d (.dct (putL kvs k v)) true))) else .stuck
    | _, _ => .stuck
  | _ => .stuck
theorem ss_dput {i : Nat} {x : Str} {p pos' : Pos} {ek ev : Expr} (hu : X.A.units + 1 < cLine) (hv : PE X (.Name x p) (tVar i)) (hk : SE X EX C ek f) (he : SE X EX C ev g)
    (hs : swapsWith ev (some (.Subscript (.Name x p) ek pos')) pos.line X.env = pure false := by rfl) : SS X EX C (.Assign [.Subscript (.Name x p) ek pos'] ev pos) (dputO i f g) := by
  obtain ⟨tk, pk, qk⟩ := hk
  obtain ⟨te, pe, qe⟩ := he
  refine ⟨_, ps_dput hu hv pk pe hs, fun F σ H ρ D er w => ?_⟩
  refine qe F σ H ρ _ er ((WS.bind w er.same).imp fun d _ k u H1 s1 r1 => ?_)
  split at k
  · rename_i kvs h
    have er1 := er.mono s1
    obtain ⟨v, g1, g2, _⟩ := er1.slot _ _ _ h
    obtain ⟨a, rfl, hF, ha⟩ := g2 rfl
    refine ⟨.ref a, g1, ?_⟩
    refine qk F σ H1 ρ _ er1 ((WS.bind (k.grow (Same.refl F) (Same.tups s1)) er1.same).imp fun dk _ k2 vk H2 s2 r2 => ?_)
    split at k2
    · rename_i key val _ _
      split at k2
      · rename_i hz
        have r1' := rt_int (r1.same s2)
        have r2' := rt_str r2
        subst r1' r2'
        have hl : (dK kvs).length < sizeLine := by unfold dK; rw [List.length_map, sizeLine_eq]; exact hz
        have hp := DPut.k (k := Sum.inr key) (v := V.int val) (s2 _ _ ha) hl
        rw [putK_dK] at hp
        refine ⟨a, _, rfl, hp, ?_⟩
        exact k2 F σ _ (Same.refl F) ((Same.tups s2).trans (upd_tups (s2 _ _ ha) trivial)) ((er1.mono s2).wrote h (fun z e => by cases e) g1 hF (s2 _ _ ha) trivial ⟨a, rfl, hF, upd_same⟩)
      · exact k2.elim
    · exact k2.elim
  · exact k.elim
/-- d.pop(k) -/
def dropL (kvs : List (Str × Int)) (k : Str) : List (Str × Int) := kvs.filter fun p => decide (p.1 ≠ k)
theorem dropK_dK (kvs : List (Str × Int)) (k : Str) : dropK (dK kvs) (Sum.inr k) = dK (dropL kvs k) := by
  unfold dropK dropL dK
  rw [List.filter_map]
  congr 1
  congr 1
  funext p
  simp
def popO (i : Nat) (fk : Ev → R D) (ρ : Ev) : R Out := match ρ[i]? with
  | some (.d (.dct kvs) true) => fk ρ >>= fun k => match k with
    | .t (.str k) => if (kvs.find? fun q => decide (q.1 = k)).isSome then .ok (.nx (ρ.set i (.d (.dct (dropL kvs k)) true))) else .stuck
    | _ => .stuck
  | _ => .stuck
theorem ss_pop {i : Nat} {x : Str} {p apos cpos : Pos} {ek : Expr} (hv : PE X (.Name x p) (tVar i)) (hk : SE X EX C ek f) (m : M1 X (.Name x p) "pop" apos ek cpos := by exact ⟨rfl, rfl, rfl, rfl⟩)
    (hs : swapsWith (.Call (.Attribute (.Name x p) "pop" apos) [ek] [] cpos) none pos.line X.env = pure false := by rfl) : SS X EX C (.Expr (.Call (.Attribute (.Name x p) "pop" apos) [ek] [] cpos) pos) (popO i f) := by
  obtain ⟨tk, pk, qk⟩ := hk
  refine ⟨_, ps_expr (pe_dpop1 hv pk m) hs, fun F σ H ρ D er w => ?_⟩
  unfold popO at w
  split at w
  · rename_i kvs h
    obtain ⟨v, g1, g2, _⟩ := er.slot _ _ _ h
    obtain ⟨a, rfl, hF, ha⟩ := g2 rfl
    refine ⟨.ref a, g1, a, rfl, .inl ⟨_, .inl ha⟩, ?_⟩
    refine qk F σ H ρ _ er ((WS.bind w er.same).imp fun dk _ k u H1 s1 r1 => ?_)
    split at k
    · rename_i key _
      split at k
      · rename_i hz
        rw [rt_str r1]
        obtain ⟨q, hq⟩ := Option.isSome_iff_exists.mp hz
        refine ⟨_, Sum.inr key, V.int q.2, s1 _ _ ha, rfl, by rw [valV_dK, hq]; rfl, ?_⟩
        rw [dropK_dK]
        exact k F σ _ (Same.refl F) ((Same.tups s1).trans (upd_tups (s1 _ _ ha) trivial)) ((er.mono s1).wrote h (fun z e => by cases e) g1 hF (s1 _ _ ha) trivial ⟨a, rfl, hF, upd_same⟩)
      · exact k.elim
    · exact k.elim
  · exact w.elim
/-- a, b = e: a tuple's items to names -/
def gNames : List Nat → List T → Ev → R Ev
  | [], [], ρ => .ok ρ
  | i :: is, x :: xs, ρ => gNames is xs (ρ.set i (.d (.t x) true))
  | _, _, _ => .stuck
def unpO (is : List Nat) (f : Ev → R D) (ρ : Ev) : R Out := f ρ >>= fun d => match d with
  | .t (.tup xs) => gNames is xs ρ >>= fun ρ' => .ok (.nx ρ')
  | _ => .stuck
def gList : List Nat → TGs
  | [] => gNil
  | i :: is => gCons (gName i) (gList is)
theorem gl_ok {K : PySem.W.Frag} {F H : Hp} {Q : St → Hp → Prop} : ∀ {is : List Nat} {xs : List T} {vs : List V} {σ : St} {ρ ρ' : Ev}, gNames is xs ρ = .ok ρ' → RTs K H xs vs → ER K F σ H ρ → (∀ σ', ER K F σ' H ρ' → Q σ' H) → gList is vs σ H Q
  | [], [], vs, σ, ρ, ρ', h, r, er, q => by cases h; rw [r.unnil]; exact ⟨rfl, q σ er⟩
  | i :: is, x :: xs, vs, σ, ρ, ρ', h, r, er, q => by
    obtain ⟨v, ws, rfl, r1, rs⟩ := r.uncons
    exact ⟨v, ws, rfl, gl_ok (is := is) h rs (er.store (x := .t x) (Same.refl H) r1) q⟩
  | [], _ :: _, vs, σ, ρ, ρ', h, r, er, q => by cases h
  | _ :: _, [], vs, σ, ρ, ρ', h, r, er, q => by cases h
theorem gNames_len : ∀ {is : List Nat} {xs : List T} {ρ ρ' : Ev}, gNames is xs ρ = .ok ρ' → xs.length = is.length
  | [], [], _, _, _ => rfl
  | i :: is, x :: xs, ρ, ρ', h => by
    have := gNames_len (is := is) (xs := xs) h
    simp [this]
  | [], _ :: _, _, _, h => by cases h
  | _ :: _, [], _, _, h => by cases h
theorem gNames_nr {c : Nat} : ∀ {is : List Nat} {xs : List T} {ρ : Ev}, gNames is xs ρ = .raise c → False
  | [], [], _, h => by cases h
  | i :: is, x :: xs, ρ, h => gNames_nr (is := is) (xs := xs) h
  | [], _ :: _, _, h => by cases h
  | _ :: _, [], _, h => by cases h
theorem ss_unp {is : List Nat} {es : List Expr} {e : Expr} {k : Nat} {p1 : Pos} (hc : X.calm = true) (he : SE X EX C e f) (hg : PG X (.Tuple es k p1) (gTup X.K is.length (gList is)))
    (hs : swapsWithSole [.Tuple es k p1] e pos.line X.env = pure false := by rfl) (hw : swappedStores [.Tuple es k p1] e X.env = pure none := by rfl) :
    SS X EX C (.Assign [.Tuple es k p1] e pos) (unpO is f) := by
  obtain ⟨te, pe, qe⟩ := he
  refine ⟨_, ps_asg pe hg hs hw, fun F σ H ρ D er w => ?_⟩
  refine qe F σ H ρ _ er ((WS.bind w er.same).imp fun d _ k v H1 s1 r1 => ?_)
  cases d with
  | t x =>
    cases x with
    | tup xs =>
      obtain ⟨a, vs, rfl, ha, ra⟩ := rt_tup r1
      have k : WS X.K EX C F H D (gNames is xs ρ >>= fun ρ' => .ok (.nx ρ')) := k
      cases e2 : gNames is xs ρ with
      | ok ρ' =>
        rw [e2] at k
        refine ⟨a, vs, rfl, ha, by rw [ra.length, gNames_len e2], ?_⟩
        exact gl_ok (F := F) e2 ra (er.mono s1) fun σ' er' => k F σ' H1 (Same.refl F) (Same.tups s1) er'
      | raise c => exact (gNames_nr e2).elim
      | stuck => rw [e2] at k; exact k.elim
    | _ => exact k.elim
  | _ => exact k.elim
/-- a, b = x, y -/
def parO (i j : Nat) (f : Ev → R (List D)) (ρ : Ev) : R Out := f ρ >>= fun ds => match ds with
  | [.t x, .t y] => .ok (.nx ((ρ.set i (.d (.t x) true)).set j (.d (.t y) true)))
  | _ => .stuck

/-! ### for -/
def forR (j : Nat) (body : Ev → R Out) : List T → Ev → R Out
  | [], ρ => .ok (.nx ρ)
  | x :: xs, ρ => body (ρ.set j (.d (.t x) true)) >>= fun o => match o with
    | .nx ρ' => forR j body xs ρ'
    | .ct ρ' => forR j body xs ρ'
    | .bk ρ' => .ok (.nx ρ')
    | .rt d => .ok (.rt d)
/-- what stands at turn i -/
def Pf (K : PySem.W.Frag) (EX : XK) (C : Nat → Addr) (F1 H1 : Hp) (D : Ends) (j : Nat) (body : Ev → R Out) (items : List T) (i : Nat) (σ : St) (H : Hp) : Prop :=
  ∃ F ρ, Same F1 F ∧ TupLe K H1 H ∧ ER K F σ H ρ ∧ WS K EX C F H D (forR j body (items.drop i) ρ)
theorem pf_turn {j : Nat} {body : Ev → R Out} {tb : TS} (hb : ∀ F σ H ρ D, ER X.K F σ H ρ → WS X.K EX C F H D (body ρ) → tb D σ H) {F1 H1 : Hp} {D : Ends} {items : List T} {i : Nat} {σ : St} {H : Hp} {x : T} {v : V}
    (p : Pf X.K EX C F1 H1 D j body items i σ H) (hx : items[i]? = some x) (rv : RT X.K H x v) :
    tb { D with nx := Pf X.K EX C F1 H1 D j body items (i + 1), ct := Pf X.K EX C F1 H1 D j body items (i + 1), bk := D.nx } (σ.set j (some v)) H := by
  obtain ⟨F, ρ, e1, e2, er, w⟩ := p
  have hlt : i < items.length := (List.getElem?_eq_some_iff.mp hx).1
  have hd : items.drop i = x :: items.drop (i + 1) := by
    rw [List.drop_eq_getElem_cons hlt]
    congr 1
    have := List.getElem?_eq_getElem hlt
    rw [this] at hx
    exact Option.some.inj hx
  rw [hd] at w
  refine hb F _ H _ _ (er.store (x := .t x) (Same.refl H) rv) ?_
  unfold forR at w
  cases e : body (ρ.set j (.d (.t x) true)) with
  | ok o =>
    rw [e] at w
    cases o with
    | nx ρ' => exact fun F' σ' H' s' t' er' => ⟨F', ρ', e1.trans s', e2.trans t', er', WS.grow w s' t'⟩
    | ct ρ' => exact fun F' σ' H' s' t' er' => ⟨F', ρ', e1.trans s', e2.trans t', er', WS.grow w s' t'⟩
    | bk ρ' => exact fun F' σ' H' s' t' er' => w F' σ' H' s' t' er'
    | rt d => exact w
  | raise c => rw [e] at w; exact w
  | stuck => rw [e] at w; exact w.elim
theorem pf_end {j : Nat} {body : Ev → R Out} {F1 H1 : Hp} {D : Ends} {items : List T} {i : Nat} {σ : St} {H : Hp} (p : Pf X.K EX C F1 H1 D j body items i σ H) (hi : items.length ≤ i) : D.nx σ H := by
  obtain ⟨F, ρ, e1, e2, er, w⟩ := p
  rw [List.drop_eq_nil_of_le hi] at w
  exact w F σ H (Same.refl F) (TupLe.refl H) er
/-- over a tuple -/
@[simp] def forTO (j : Nat) (f : Ev → R D) (body : Ev → R Out) (ρ : Ev) : R Out := f ρ >>= fun d => match d with
  | .t (.tup xs) => forR j body xs ρ
  | _ => .stuck
theorem ss_forT {j : Nat} {tg e : Expr} {sts : List Stmt} {body : Ev → R Out} (hp : PassesOwn (model X.prog X.w) X.A X.env X.xe) (hc : X.calm = true) (he : SE X EX C e f) (hg : PG X tg (gName j)) (hb : SB X EX C sts body)
    (hs : ∀ x, foldedSetIterable e X.env x = pure x := by intro _; rfl) : SS X EX C (.For tg e sts [] pos) (forTO j f body) := by
  obtain ⟨te, pe, qe⟩ := he
  obtain ⟨tb, pb, qb⟩ := hb
  refine ⟨_, ps_for hp hc (pi_tup pe) hg pb hs, fun F σ H ρ D er w => ?_⟩
  refine qe F σ H ρ _ er ((WS.bind w er.same).imp fun d _ k v H1 s1 r1 => ?_)
  cases d with
  | t x =>
    cases x with
    | tup xs =>
      obtain ⟨a, vs, rfl, ha, ra⟩ := rt_tup r1
      refine ⟨a, rfl, ⟨vs, ha⟩, ?_⟩
      refine for_tup (xs := vs) (Pf X.K EX C F H1 D j body xs) ⟨F, ρ, Same.refl F, TupLe.refl H1, er.mono s1, WS.grow k (Same.refl F) (Same.tups s1)⟩ (fun i σ' H' _ p => ?_) (fun i u σ' H' hu p => ?_) (fun σ' H' p => pf_end p (by rw [ra.length]; exact Nat.le_refl _))
      · obtain ⟨_, _, _, t, _⟩ := p
        exact t a vs ha
      · obtain ⟨y, hy, ry⟩ := ra.getV hu
        have t : TupLe X.K H1 H' := by obtain ⟨_, _, _, t, _⟩ := p; exact t
        exact pf_turn qb p hy (RT.mono t y u ry)
    | _ => exact k.elim
  | _ => exact k.elim
/-- a list stands still for a loop -/
theorem ER.freeze {K : PySem.W.Frag} {F H : Hp} {σ : St} {ρ : Ev} {a : Addr} {o : HO} (er : ER K F σ H ρ) (ha : H a = some o) (n : ∀ (i : Nat) x v, ρ[i]? = some (.d x true) → σ[i]? = some (some v) → Ad H x v a → False) : ER K (upd F a o) σ H ρ := by
  refine ⟨fun b u q => ?_, fun i x ow h => ?_, er.apart, er.len, er.raw⟩
  · by_cases hb : b = a
    · subst hb; rw [upd_same] at q; cases q; exact ha
    · rw [upd_ne hb] at q; exact er.same b u q
  · obtain ⟨v, h1, h2, h3⟩ := er.slot i x ow h
    refine ⟨v, h1, fun e => ?_, fun e => (h3 e).grow fun b u q => ?_⟩
    · subst e
      have r := h2 rfl
      cases x with
      | t z => exact r
      | lst ds =>
        obtain ⟨b, xs, rfl, g1, g2, g3⟩ := r
        refine ⟨b, xs, rfl, ?_, g2, g3⟩
        rw [upd_ne (fun e => n i _ _ h h1 (by rw [e]; rfl))]; exact g1
      | dct kvs =>
        obtain ⟨b, rfl, g1, g2⟩ := r
        refine ⟨b, rfl, ?_, g2⟩
        rw [upd_ne (fun e => n i _ _ h h1 (by rw [e]; rfl))]; exact g1
      | scr ns => exact r
      | sn w ts =>
        obtain ⟨b, xs, rfl, g1, g2, g3⟩ := r
        refine ⟨b, xs, rfl, ?_, g2, g3⟩
        rw [upd_ne (fun e => n i _ _ h h1 (by rw [e]; rfl))]; exact g1
      | pr z ts =>
        obtain ⟨b0, u, b, xs, rfl, g1, g2, g3, g4, g5⟩ := r
        refine ⟨b0, u, b, xs, rfl, g1, g2, ?_, g4, g5⟩
        rw [upd_ne (fun e => n i _ _ h h1 (by rw [← e]; exact ⟨b0, u, rfl, g1⟩))]; exact g3
    · by_cases hb : b = a
      · subst hb
        have q2 := er.same b u q
        rw [ha] at q2; cases q2
        exact upd_same
      · rw [upd_ne hb]; exact q
/-- a slot of a list becomes one that only is read -/
theorem ER.frozen {K : PySem.W.Frag} {F H : Hp} {σ : St} {ρ : Ev} {i : Nat} {x : D} {a : Addr} {o : HO} (er : ER K F σ H ρ) (h : ρ[i]? = some (.d x true)) (nx : ∀ z, x ≠ .t z) (hv : σ[i]? = some (some (.ref a))) (ha : H a = some o) (r : RP K (upd F a o) H x (.ref a)) (np : ∀ z zs, x ≠ .pr z zs := by intro _ _ e; cases e) :
    ER K (upd F a o) σ H (ρ.set i (.d x false)) := by
  have hi : i < ρ.length := (List.getElem?_eq_some_iff.mp h).1
  have ax : Ad H x (.ref a) a := by
    cases x with
    | t z => exact (nx z rfl).elim
    | pr z zs => exact (np z zs rfl).elim
    | _ => rfl
  have er0 : ER K F σ H (ρ.set i .un) := by
    refine ⟨er.same, fun j y ow hj => ?_, fun j k y z v u b h1 h2 g1 g2 a1 a2 => ?_, by simpa using er.len, raw_same er.raw (fun v e => by cases e)⟩
    · by_cases hij : i = j
      · subst hij; rw [List.getElem?_set_self hi] at hj; cases hj
      · rw [List.getElem?_set_ne hij] at hj; exact er.slot j y ow hj
    · by_cases hij : i = j
      · subst hij; rw [List.getElem?_set_self hi] at h1; cases h1
      · by_cases hik : i = k
        · subst hik; rw [List.getElem?_set_self hi] at h2; cases h2
        · rw [List.getElem?_set_ne hij] at h1; rw [List.getElem?_set_ne hik] at h2
          exact er.apart j k y z v u b h1 h2 g1 g2 a1 a2
  have er1 := er0.freeze ha (fun j y v hj gj aj => by
    by_cases hij : i = j
    · subst hij; rw [List.getElem?_set_self hi] at hj; cases hj
    · rw [List.getElem?_set_ne hij] at hj
      exact hij (er.apart i j x y _ _ a h hj hv gj ax aj))
  refine ⟨er1.same, fun j y ow hj => ?_, fun j k y z v u b h1 h2 g1 g2 a1 a2 => ?_, by simpa using er.len, raw_same er.raw (fun v e => by cases e)⟩
  · by_cases hij : i = j
    · subst hij; rw [List.getElem?_set_self hi] at hj; cases hj
      exact ⟨.ref a, hv, fun e => by (cases e), fun _ => r⟩
    · rw [List.getElem?_set_ne hij] at hj
      exact er1.slot j y ow (by rw [List.getElem?_set_ne hij]; exact hj)
  · by_cases hij : i = j
    · subst hij; rw [List.getElem?_set_self hi] at h1; cases h1
    · by_cases hik : i = k
      · subst hik; rw [List.getElem?_set_self hi] at h2; cases h2
      · exact er1.apart j k y z v u b (by rw [List.getElem?_set_ne hij] at h1 ⊢; exact h1) (by rw [List.getElem?_set_ne hik] at h2 ⊢; exact h2) g1 g2 a1 a2
/-- over a new list -/
@[simp] def forLO (j : Nat) (f : Ev → R D) (body : Ev → R Out) (ρ : Ev) : R Out := f ρ >>= fun d => match d with
  | .lst xs => forR j body xs ρ
  | _ => .stuck
theorem for_frozen {j : Nat} {body : Ev → R Out} {tb : TS} (hb : ∀ F σ H ρ D, ER X.K F σ H ρ → WS X.K EX C F H D (body ρ) → tb D σ H) {F H1 : Hp} {D : Ends} {xs : List T} {vs : List V} {σ : St} {ρ : Ev} {a : Addr}
    (er : ER X.K F σ H1 ρ) (hF : F a = some (.lst vs)) (ra : RTs X.K H1 xs vs) (w : WS X.K EX C F H1 D (forR j body xs ρ)) :
    ∃ W : Nat → Nat → St → Hp → Prop, (∃ m, W 0 m σ H1) ∧ ∀ i m σ H, W i m σ H →
      ((Itl X.K a).stop i H ∧ D.nx σ H) ∨ ((Itl X.K a).go i H ∧ ∃ N : St → Hp → Prop, (∀ σ' H', N σ' H' → ∃ m', m' < m ∧ W (i + 1) m' σ' H') ∧ ∀ x H', (Itl X.K a).yld i H x H' → gName j x σ H' fun σ2 H2 => tb { D with nx := N, ct := N, bk := D.nx } σ2 H2) := by
  refine for_list (xs := vs) (Pf X.K EX C F H1 D j body xs) ⟨F, ρ, Same.refl F, TupLe.refl H1, er, w⟩ (fun i σ' H' _ p => ?_) (fun i u σ' H' hu p => ?_) (fun σ' H' p => pf_end p (by rw [ra.length]; exact Nat.le_refl _))
  · obtain ⟨F', _, s, _, er', _⟩ := p
    exact SqL.of (er'.same _ _ (s _ _ hF))
  · obtain ⟨y, hy, ry⟩ := ra.getV hu
    have t : TupLe X.K H1 H' := by obtain ⟨_, _, _, t, _⟩ := p; exact t
    exact pf_turn hb p hy (RT.mono t y u ry)
theorem ss_forL {j : Nat} {tg e : Expr} {sts : List Stmt} {body : Ev → R Out} (hp : PassesOwn (model X.prog X.w) X.A X.env X.xe) (hc : X.calm = true) (he : SN X EX C e f) (hg : PG X tg (gName j)) (hb : SB X EX C sts body)
    (hs : ∀ x, foldedSetIterable e X.env x = pure x := by intro _; rfl) : SS X EX C (.For tg e sts [] pos) (forLO j f body) := by
  obtain ⟨te, pe, qe⟩ := he
  obtain ⟨tb, pb, qb⟩ := hb
  refine ⟨_, ps_for hp hc (pi_list pe) hg pb hs, fun F σ H ρ D er w => ?_⟩
  refine qe F σ H ρ _ er ((WS.bind w er.same).imp fun d _ k v H1 s1 r1 => ?_)
  cases d with
  | lst xs =>
    obtain ⟨a, vs, rfl, hn, ha, ra⟩ := r1
    refine ⟨a, rfl, ⟨vs, SqL.of ha⟩, ?_⟩
    have er1 := er.mono s1
    have hFn : F a = none := er.same.free hn
    have er2 : ER X.K (upd F a (.lst vs)) σ H1 ρ := er1.freeze ha fun i x v h g ad => by
      obtain ⟨v', q1, q2, _⟩ := er.slot i x true h
      rw [g] at q1; cases q1
      obtain ⟨_, o, ho, _⟩ := Ad.old (q2 rfl) (Ad.back s1 (q2 rfl) ad)
      rw [hn] at ho; cases ho
    exact for_frozen qb er2 upd_same ra (WS.grow k (same_new hFn _) (Same.tups s1))
  | _ => exact k.elim
/-- over a list that a name holds -/
def forNO (j i : Nat) (body : Ev → R Out) (ρ : Ev) : R Out := match ρ[i]? with
  | some (.d (.lst xs) _) => forR j body xs (ρ.set i (.d (.lst xs) false))
  | _ => .stuck
theorem ss_forN {j i : Nat} {tg : Expr} {x : Str} {p : Pos} {sts : List Stmt} {body : Ev → R Out} (hp : PassesOwn (model X.prog X.w) X.A X.env X.xe) (hc : X.calm = true) (hv : PE X (.Name x p) (tVar i)) (hg : PG X tg (gName j)) (hb : SB X EX C sts body)
    (hs : ∀ y, foldedSetIterable (.Name x p) X.env y = pure y := by intro _; rfl) : SS X EX C (.For tg (.Name x p) sts [] pos) (forNO j i body) := by
  obtain ⟨tb, pb, qb⟩ := hb
  refine ⟨_, ps_for hp hc (pi_list hv) hg pb hs, fun F σ H ρ D er w => ?_⟩
  unfold forNO at w
  split at w
  · rename_i xs ow h
    obtain ⟨v, g1, g2, g3⟩ := er.slot _ _ _ h
    cases ow with
    | true =>
      obtain ⟨a, vs, rfl, hF, ha, ra⟩ := g2 rfl
      refine ⟨.ref a, g1, a, rfl, ⟨vs, SqL.of ha⟩, ?_⟩
      have er2 := er.frozen h (fun z e => by cases e) g1 ha (show RP X.K (upd F a (.lst vs)) H (.lst xs) (.ref a) from ⟨a, vs, rfl, upd_same, ra⟩)
      exact for_frozen qb er2 upd_same ra (WS.grow w (same_new hF _) (TupLe.refl H))
    | false =>
      obtain ⟨a, vs, rfl, hF, ra⟩ := g3 rfl
      refine ⟨.ref a, g1, a, rfl, ⟨vs, SqL.of (er.same _ _ hF)⟩, ?_⟩
      have e : ρ.set i (.d (.lst xs) false) = ρ := by
        apply List.ext_getElem?
        intro k
        by_cases hk : i = k
        · subst hk; rw [List.getElem?_set_self (List.getElem?_eq_some_iff.mp h).1, h]
        · rw [List.getElem?_set_ne hk]
      rw [e] at w
      exact for_frozen qb er hF ra w
  · exact w.elim
/-- over a range -/
def rngT (lo : Int) (n : Nat) : List T := (List.range n).map fun k => T.int (lo + (k : Nat))
theorem rngT_get {lo : Int} {n i : Nat} (h : i < n) : (rngT lo n)[i]? = some (.int (lo + (i : Nat))) := by
  unfold rngT
  rw [List.getElem?_map, List.getElem?_range h]; rfl
theorem rngT_len (lo : Int) (n : Nat) : (rngT lo n).length = n := by unfold rngT; simp
theorem for_rng {j : Nat} {body : Ev → R Out} {tb : TS} (hb : ∀ F σ H ρ D, ER X.K F σ H ρ → WS X.K EX C F H D (body ρ) → tb D σ H) {F H1 : Hp} {D : Ends} {lo : Int} {n : Nat} {σ : St} {ρ : Ev}
    (er : ER X.K F σ H1 ρ) (w : WS X.K EX C F H1 D (forR j body (rngT lo n) ρ)) :
    ∃ W : Nat → Nat → St → Hp → Prop, (∃ m, W 0 m σ H1) ∧ ∀ i m σ H, W i m σ H →
      ((Itr lo n).stop i H ∧ D.nx σ H) ∨ ((Itr lo n).go i H ∧ ∃ N : St → Hp → Prop, (∀ σ' H', N σ' H' → ∃ m', m' < m ∧ W (i + 1) m' σ' H') ∧ ∀ x H', (Itr lo n).yld i H x H' → gName j x σ H' fun σ2 H2 => tb { D with nx := N, ct := N, bk := D.nx } σ2 H2) := by
  refine for_range (lo := lo) (n := n) (Pf X.K EX C F H1 D j body (rngT lo n)) ⟨F, ρ, Same.refl F, TupLe.refl H1, er, w⟩ (fun i σ' H' hi p => ?_) (fun σ' H' p => pf_end p (by rw [rngT_len]; exact Nat.le_refl _))
  exact pf_turn hb p (rngT_get hi) (by unfold RT; rfl)
def rng1 : List D → R (Int × Nat)
  | [.t (.int n)] => if n.natAbs < 4611686018427387904 then .ok (0, n.toNat) else .stuck
  | _ => .stuck
def rng2 : List D → R (Int × Nat)
  | [.t (.int m), .t (.int n)] => if m.natAbs < 4611686018427387904 ∧ n.natAbs < 4611686018427387904 then .ok (m, (n - m).toNat) else .stuck
  | _ => .stuck
@[simp] def forRO (j : Nat) (f : Ev → R (List D)) (rg : List D → R (Int × Nat)) (body : Ev → R Out) (ρ : Ev) : R Out := f ρ >>= rg >>= fun p => forR j body (rngT p.1 p.2) ρ
theorem rng1_ok {K : PySem.W.Frag} {H : Hp} {ds : List D} {vs : List V} {k : Int × Nat → Prop} (r : RDs K H ds vs) (w : Wp EX C H (rng1 ds) k) : ∃ n : Int, vs = [.int n] ∧ -(2 ^ 62) ≤ n ∧ n < 2 ^ 62 ∧ k (0, n.toNat) := by
  unfold rng1 at w
  split at w
  · split at w
    · rename_i n hz
      obtain ⟨v, rfl, h⟩ := rd1 r
      rw [rt_int h]
      exact ⟨n, rfl, by omega, by omega, w⟩
    · exact w.elim
  · exact w.elim
theorem rng2_ok {K : PySem.W.Frag} {H : Hp} {ds : List D} {vs : List V} {k : Int × Nat → Prop} (r : RDs K H ds vs) (w : Wp EX C H (rng2 ds) k) : ∃ m n : Int, vs = [.int m, .int n] ∧ (-(2 ^ 62) ≤ m ∧ m < 2 ^ 62 ∧ -(2 ^ 62) ≤ n ∧ n < 2 ^ 62) ∧ k (m, (n - m).toNat) := by
  unfold rng2 at w
  split at w
  · split at w
    · rename_i m n hz
      obtain ⟨v, u, rfl, h1, h2⟩ := rd2 r
      rw [rt_int h1, rt_int h2]
      exact ⟨m, n, rfl, by omega, w⟩
    · exact w.elim
  · exact w.elim
theorem ss_forR1 {j : Nat} {tg e : Expr} {h : Ev → R (List D)} {sts : List Stmt} {body : Ev → R Out} {p cpos : Pos} (hp : PassesOwn (model X.prog X.w) X.A X.env X.xe) (hc : X.calm = true) (hm : X.mg "range" = none) (he : SA X EX C [e] h) (hg : PG X tg (gName j)) (hb : SB X EX C sts body)
    (hgl : Gl X "range" := by rfl) (h1 : starEach [e] X.env = [(false, eval e X.env)] := by rfl)
    (hs : ∀ x, foldedSetIterable (.Call (.Name "range" p) [e] [] cpos) X.env x = pure x := by intro _; rfl) : SS X EX C (.For tg (.Call (.Name "range" p) [e] [] cpos) sts [] pos) (forRO j h rng1 body) := by
  obtain ⟨⟨te, pe, qe⟩, _⟩ := he
  obtain ⟨tb, pb, qb⟩ := hb
  refine ⟨_, ps_for hp hc (pi_range1 hgl hm pe h1) hg pb hs, fun F σ H ρ D er w => ?_⟩
  unfold forRO at w
  have w1 := WS.bind w er.same
  refine qe F σ H ρ _ er ((Wp.bind w1).imp fun ds _ k vs H1 s1 r1 => ?_)
  obtain ⟨n, rfl, g1, g2, k⟩ := rng1_ok r1 (Wp.mono k s1 fun _ _ q => q)
  exact ⟨n, rfl, g1, g2, for_rng qb (er.mono s1) (WS.grow k (Same.refl F) (Same.tups s1))⟩
theorem ss_forR2 {j : Nat} {tg e e2 : Expr} {h : Ev → R (List D)} {sts : List Stmt} {body : Ev → R Out} {p cpos : Pos} (hp : PassesOwn (model X.prog X.w) X.A X.env X.xe) (hc : X.calm = true) (hm : X.mg "range" = none) (he : SA X EX C [e, e2] h) (hg : PG X tg (gName j)) (hb : SB X EX C sts body)
    (hgl : Gl X "range" := by rfl) (h1 : starEach [e, e2] X.env = [(false, eval e X.env), (false, eval e2 X.env)] := by rfl) (h2 : starEach [e2] X.env = [(false, eval e2 X.env)] := by rfl)
    (hs : ∀ x, foldedSetIterable (.Call (.Name "range" p) [e, e2] [] cpos) X.env x = pure x := by intro _; rfl) : SS X EX C (.For tg (.Call (.Name "range" p) [e, e2] [] cpos) sts [] pos) (forRO j h rng2 body) := by
  obtain ⟨⟨te, pe, qe⟩, _⟩ := he
  obtain ⟨tb, pb, qb⟩ := hb
  refine ⟨_, ps_for hp hc (pi_range2 hgl hm pe h1 h2) hg pb hs, fun F σ H ρ D er w => ?_⟩
  unfold forRO at w
  have w1 := WS.bind w er.same
  refine qe F σ H ρ _ er ((Wp.bind w1).imp fun ds _ k vs H1 s1 r1 => ?_)
  obtain ⟨m, n, rfl, g1, k⟩ := rng2_ok r1 (Wp.mono k s1 fun _ _ q => q)
  exact ⟨m, n, rfl, g1, for_rng qb (er.mono s1) (WS.grow k (Same.refl F) (Same.tups s1))⟩
/-! ### while -/
def whR (c : Ev → R Bool) (body : Ev → R Out) : Nat → Ev → R Out
  | 0, _ => .stuck
  | n + 1, ρ => c ρ >>= fun b => if b then body ρ >>= fun o => match o with
      | .nx ρ' => whR c body n ρ'
      | .ct ρ' => whR c body n ρ'
      | .bk ρ' => .ok (.nx ρ')
      | .rt d => .ok (.rt d)
    else .ok (.nx ρ)
theorem ss_while {n : Nat} {e : Expr} {sts : List Stmt} {c : Ev → R Bool} {body : Ev → R Out} (hp : PassesOwn (model X.prog X.w) X.A X.env X.xe) (hc : ST X EX C e c) (hb : SB X EX C sts body) : SS X EX C (.While e sts [] pos) (whR c body n) := by
  obtain ⟨tc, pc, qc⟩ := hc
  obtain ⟨tb, pb, qb⟩ := hb
  refine ⟨_, ps_while hp pc pb, fun F σ H ρ D er w => ?_⟩
  refine ⟨fun m σ' H' => ∃ F' ρ', Same F F' ∧ ER X.K F' σ' H' ρ' ∧ WS X.K EX C F' H' D (whR c body m ρ'), ⟨n, F, ρ, Same.refl F, er, w⟩, ?_⟩
  rintro m σ' H' ⟨F', ρ', e1, er', w'⟩
  cases m with
  | zero => exact w'.elim
  | succ m =>
    unfold whR at w'
    refine qc F' σ' H' ρ' _ er' ((WS.bind w' er'.same).imp fun b _ k H1 s1 => ?_)
    cases b with
    | false =>
      refine iteF ?_
      exact k F' σ' H1 (Same.refl F') (Same.tups s1) (er'.mono s1)
    | true =>
      refine iteT ⟨fun σ2 H2 => ∃ F2 ρ2, Same F F2 ∧ ER X.K F2 σ2 H2 ρ2 ∧ WS X.K EX C F2 H2 D (whR c body m ρ2), fun σ2 H2 q => ⟨m, Nat.lt_succ_self m, q⟩, ?_⟩
      refine qb F' σ' H1 ρ' _ (er'.mono s1) ?_
      have k : WS X.K EX C F' H' D (body ρ' >>= fun o => match o with
        | .nx ρ' => whR c body m ρ'
        | .ct ρ' => whR c body m ρ'
        | .bk ρ' => .ok (.nx ρ')
        | .rt d => .ok (.rt d)) := k
      cases e2 : body ρ' with
      | ok o =>
        rw [e2] at k
        cases o with
        | nx ρ2 => exact fun F2 σ2 H2 s2 t2 er2 => ⟨F2, ρ2, e1.trans s2, er2, WS.grow k s2 ((Same.tups s1).trans t2)⟩
        | ct ρ2 => exact fun F2 σ2 H2 s2 t2 er2 => ⟨F2, ρ2, e1.trans s2, er2, WS.grow k s2 ((Same.tups s1).trans t2)⟩
        | bk ρ2 => exact fun F2 σ2 H2 s2 t2 er2 => k F2 σ2 H2 s2 ((Same.tups s1).trans t2) er2
        | rt d => exact k
      | raise x => rw [e2] at k; exact k
      | stuck => rw [e2] at k; exact k.elim
end
end Pf

set_option Elab.async false
set_option linter.all false
set_option maxRecDepth 100000
set_option maxHeartbeats 2000000
namespace Pf
open PySem L2
section
variable {X : Cx} {EX : XK} {C : Nat → Addr} {a b : Expr} {f g : Ev → R D} {pos : Pos}
/-! ## list comprehensions, one clause, one name -/
def lcR (j : Nat) (c : Ev → R Bool) (el : Ev → R D) (ρ : Ev) : List T → R (List T)
  | [] => .ok []
  | x :: xs => c (ρ.set j (.d (.t x) true)) >>= fun b => if b then el (ρ.set j (.d (.t x) true)) >>= fun d => match d with
      | .t y => lcR j c el ρ xs >>= fun r => .ok (y :: r)
      | _ => .stuck
    else lcR j c el ρ xs
/-- canonical readings: what a block's parts are read as -/
def cN (K : PySem.W.Frag) (EX : XK) (C : Nat → Addr) (f : Ev → R D) : TE := fun σ H Q => ∃ F ρ, ER K F σ H ρ ∧ WN K EX C H (f ρ) Q
theorem SN.can (h : SN X EX C a f) : PE X a (cN X.K EX C f) := by
  obtain ⟨te, p, q⟩ := h
  exact ⟨fun pins s σ H Q I ⟨F, ρ, er, w⟩ => p.run pins s σ H Q I (q F σ H ρ Q er w)⟩
def cT (K : PySem.W.Frag) (EX : XK) (C : Nat → Addr) (f : Ev → R Bool) : TT := fun σ H Q => ∃ F ρ, ER K F σ H ρ ∧ WB EX C H (f ρ) Q
theorem ST.can {f : Ev → R Bool} (h : ST X EX C a f) : PT X a (cT X.K EX C f) := by
  obtain ⟨te, p, q⟩ := h
  exact ⟨fun pins s σ H Q I ⟨F, ρ, er, w⟩ => p.run pins s σ H Q I (q F σ H ρ Q er w)⟩
theorem ER.wipe1 {K : PySem.W.Frag} {F H : Hp} {σ : St} {ρ : Ev} (er : ER K F σ H ρ) (j : Nat) : ER K F (wipe σ [j]) H (ρ.set j .un) := by
  show ER K F (σ.set j none) H (ρ.set j .un)
  have sub : ∀ (i : Nat) x o, (ρ.set j Sl.un)[i]? = some (.d x o) → ρ[i]? = some (.d x o) ∧ j ≠ i := by
    intro i x o h
    by_cases hj : j = i
    · subst hj
      by_cases hl : j < ρ.length
      · rw [List.getElem?_set_self hl] at h; cases h
      · rw [List.getElem?_eq_none (by simpa using hl)] at h; cases h
    · rw [List.getElem?_set_ne hj] at h; exact ⟨h, hj⟩
  refine ⟨er.same, fun i x o h => ?_, fun i k x y v u b h1 h2 g1 g2 a1 a2 => ?_, by simp [er.len], raw_both er.raw (fun v e => by cases e)⟩
  · obtain ⟨h', hj⟩ := sub i x o h
    obtain ⟨v, q1, q2⟩ := er.slot i x o h'
    exact ⟨v, by rw [List.getElem?_set_ne hj]; exact q1, q2⟩
  · obtain ⟨h1', hj⟩ := sub i x true h1
    obtain ⟨h2', hk⟩ := sub k y true h2
    rw [List.getElem?_set_ne hj] at g1
    rw [List.getElem?_set_ne hk] at g2
    exact er.apart i k x y v u b h1' h2' g1 g2 a1 a2
theorem wipe_set (σ : St) (j : Nat) (o : Option V) : wipe ((wipe σ [j]).set j o) [j] = wipe σ [j] := by
  show ((σ.set j none).set j o).set j none = σ.set j none
  rw [List.set_set, List.set_set]
/-- the state of a comprehension at turn i -/
def Pc (K : PySem.W.Frag) (C : Nat → Addr) (H1 : Hp) (Dd : Addr) (j : Nat) (c : Ev → R Bool) (el : Ev → R D) (ρ : Ev) (items : List T) (n : Nat) (Q : List T → Prop) (i : Nat) (H : Hp) : Prop :=
  ∃ acc ts, H1 Dd = none ∧ Same H1 H ∧ H Dd = some (.lst acc) ∧ RTs K H ts acc ∧ acc.length ≤ i ∧ Wp E0 C H (lcR j c el ρ (items.drop i)) (fun r => Q (ts ++ r))
theorem pc_turn {K : PySem.W.Frag} {j : Nat} {c : Ev → R Bool} {el : Ev → R D} {F H1 : Hp} {σ : St} {ρ : Ev} (er : ER K F (wipe σ [j]) H1 ρ) {Dd : Addr} {items : List T} {Q : List T → Prop} {i : Nat} {H : Hp} {x : T} {v : V}
    (p : Pc K C H1 Dd j c el ρ items items.length Q i H) (hx : items[i]? = some x) (rv : RT K H x v) (hz : items.length ≤ 16777216) :
    gName j v (wipe σ [j]) H fun σ2 H2 => wipe σ2 [j] = wipe σ [j] ∧ cT K E0 C c σ2 H2 fun b H3 => if b = true then cN K E0 C el σ2 H3 fun y H4 => ∃ acc, H4 Dd = some (.lst acc) ∧ acc.length < sizeLine ∧ Pc K C H1 Dd j c el ρ items items.length Q (i + 1) (upd H4 Dd (.lst (acc ++ [y]))) else Pc K C H1 Dd j c el ρ items items.length Q (i + 1) H3 := by
  obtain ⟨acc, ts, hD, s, hd, ra, hl, w⟩ := p
  have hlt : i < items.length := (List.getElem?_eq_some_iff.mp hx).1
  have hdr : items.drop i = x :: items.drop (i + 1) := by
    rw [List.drop_eq_getElem_cons hlt]
    congr 1
    have := List.getElem?_eq_getElem hlt
    rw [this] at hx
    exact Option.some.inj hx
  rw [hdr] at w
  have er1 : ER K F ((wipe σ [j]).set j (some v)) H (ρ.set j (.d (.t x) true)) := (er.mono s).store (x := .t x) (Same.refl H) rv
  refine ⟨wipe_set σ j (some v), F, _, er1, ?_⟩
  have w' : Wp E0 C H (c (ρ.set j (.d (.t x) true)) >>= fun b => if b then el (ρ.set j (.d (.t x) true)) >>= fun d => match d with
      | .t y => lcR j c el ρ (items.drop (i + 1)) >>= fun r => .ok (y :: r)
      | _ => .stuck
    else lcR j c el ρ (items.drop (i + 1))) (fun r => Q (ts ++ r)) := w
  refine w'.bind.imp fun b _ k H3 s3 => ?_
  cases b with
  | false =>
    refine iteF ⟨acc, ts, hD, s.trans s3, s3 _ _ hd, ra.same s3, Nat.le_succ_of_le hl, Wp.mono k s3 fun _ _ q => q⟩
  | true =>
    refine iteT ⟨F, _, er1.mono s3, ?_⟩
    refine (Wp.bind k).mono s3 fun d _ k2 y H4 s4 r4 => ?_
    cases d with
    | t z =>
      have k2 : Wp E0 C H (lcR j c el ρ (items.drop (i + 1)) >>= fun r => .ok (z :: r)) (fun r => Q (ts ++ r)) := k2
      have hd4 := s4 _ _ (s3 _ _ hd)
      refine ⟨acc, hd4, by rw [sizeLine_eq]; omega, acc ++ [y], ts ++ [z], hD, ?_, upd_same, ?_, by simp; omega, ?_⟩
      · intro b o q
        rw [upd_ne (ne_of_none q hD)]
        exact s4 _ _ (s3 _ _ (s _ _ q))
      · exact (((ra.same s3).same s4).append (RTs.cons r4 RTs.nil)).upd hd4 trivial
      · have k3 := Wp.bind k2
        cases e : lcR j c el ρ (items.drop (i + 1)) with
        | ok r => rw [e] at k3; show Q _; rw [List.append_assoc]; exact k3
        | raise c => rw [e] at k3; exact (k3 H (Same.refl H)).elim
        | stuck => rw [e] at k3; exact k3.elim
    | _ => exact k2.elim
def lcD (j : Nat) (f : Ev → R D) (sel : D → R (List T)) (c : Ev → R Bool) (el : Ev → R D) (ρ : Ev) : R D :=
  f ρ >>= sel >>= fun xs => if xs.length ≤ 16777216 then lcR j c el (ρ.set j .un) xs >>= fun r => .ok (.lst r) else .stuck
def selT : D → R (List T)
  | .t (.tup xs) => .ok xs
  | _ => .stuck
def selL : D → R (List T)
  | .lst xs => .ok xs
  | _ => .stuck
/-- nothing leaves a comprehension -/
theorem nr_lc {j : Nat} {c : Ev → R Bool} {el : Ev → R D} {ρ : Ev} {H : Hp} {xs : List T} {EX : XK} {Q : List T → Prop} (hr : ∀ x, lcR j c el ρ xs ≠ .raise x) (w : Wp EX C H (lcR j c el ρ xs) Q) : Wp E0 C H (lcR j c el ρ xs) Q := by
  cases e : lcR j c el ρ xs with
  | ok r => rw [e] at w; exact w
  | raise x => exact (hr x e).elim
  | stuck => rw [e] at w; exact w.elim
/-- a reckoning that never raises -/
def NR {α : Type} (r : R α) : R α := match r with
  | .raise _ => .stuck
  | r => r
theorem Wp.nr {α : Type} {H : Hp} {r : R α} {k : α → Prop} {EX EX' : XK} (w : Wp EX C H (NR r) k) : Wp EX' C H r k := by
  cases r with
  | ok a => exact w
  | raise c => exact (show False from w).elim
  | stuck => exact w
def lcN (j : Nat) (f : Ev → R D) (sel : D → R (List T)) (c : Ev → R Bool) (el : Ev → R D) (ρ : Ev) : R D :=
  f ρ >>= sel >>= fun xs => if xs.length ≤ 16777216 then NR (lcR j c el (ρ.set j .un) xs) >>= fun r => .ok (.lst r) else .stuck
theorem pc_done {K : PySem.W.Frag} {j : Nat} {c : Ev → R Bool} {el : Ev → R D} {ρ : Ev} {H1 : Hp} {Dd : Addr} {items : List T} {Q : List T → Prop} {H : Hp} {n : Nat} (p : Pc K C H1 Dd j c el ρ items n Q n H) (hn : items.length ≤ n) : ∃ acc ts, H1 Dd = none ∧ Same H1 H ∧ H Dd = some (.lst acc) ∧ RTs K H ts acc ∧ Q ts := by
  obtain ⟨acc, ts, hD, s, hd, ra, _, w⟩ := p
  rw [List.drop_eq_nil_of_le hn] at w
  have w' : Q (ts ++ []) := w
  rw [List.append_nil] at w'
  exact ⟨acc, ts, hD, s, hd, ra, w'⟩
theorem lc_start {K : PySem.W.Frag} {j : Nat} {c : Ev → R Bool} {el : Ev → R D} {ρ : Ev} {H1 : Hp} {Dd : Addr} {items : List T} {Q : List T → Prop} {n : Nat} (hD : H1 Dd = none) (w : Wp E0 C H1 (lcR j c el ρ items) Q) : Pc K C H1 Dd j c el ρ items n Q 0 (upd H1 Dd (.lst [])) :=
  ⟨[], [], hD, same_new hD _, upd_same, RTs.nil, Nat.le_refl _, Wp.mono w (same_new hD _) fun _ _ q => q⟩
theorem lc_fin {K : PySem.W.Frag} {EX : XK} {H H1 : Hp} {r : List T → R D} {Q : VK} {Dd : Addr} {H2 : Hp} (hs : Same H H1) (h : ∃ acc ts, H1 Dd = none ∧ Same H1 H2 ∧ H2 Dd = some (.lst acc) ∧ RTs K H2 ts acc ∧ ∀ v H', Same H H' → RN K H H' (.lst ts) v → Q v H') : Q (.ref Dd) H2 := by
  obtain ⟨acc, ts, hD, s, hd, ra, q⟩ := h
  exact q _ H2 (hs.trans s) ⟨Dd, acc, rfl, hs.free hD, hd, ra⟩

section
variable {elt tg iter : Expr} {ifs : List Expr} {scope : Scope} {x : Str} {j : Nat} {c : Ev → R Bool} {el : Ev → R D} {K : PySem.W.Frag}
theorem lcT_read {te : TE} (qe : ∀ F σ H ρ Q, ER K F σ H ρ → WD K EX C H (f ρ) Q → te σ H Q) {F : Hp} {σ : St} {H : Hp} {ρ : Ev} {Q : VK} (er : ER K F σ H ρ) (w : WN K EX C H (lcN j f selT c el ρ) Q) :
    tLc (iTup K te) (gName j) (cT K E0 C c) (cN K E0 C el) [j] σ H Q := by
  unfold lcN at w
  refine qe F σ H ρ _ er ((Wp.bind (Wp.bind w)).imp fun d _ k v H1 s1 r1 => ?_)
  cases d with
  | t y =>
    cases y with
    | tup xs =>
      obtain ⟨a, vs, rfl, ha, ra⟩ := rt_tup r1
      refine ⟨a, rfl, ⟨vs, ha⟩, fun Dd hD => ?_⟩
      have k : WN K EX C H (if xs.length ≤ 16777216 then NR (lcR j c el (ρ.set j .un) xs) >>= fun r => .ok (.lst r) else .stuck) Q := k
      split at k
      · rename_i hz
        have w0 := (Wp.nr (EX' := E0) (Wp.bind k)).mono s1 fun _ _ q => q
        have er1 := (er.mono s1).wipe1 j
        refine lc_tup (xs := vs) (Pc K C H1 Dd j c el (ρ.set j .un) xs xs.length _) (lc_start hD w0) (fun i H' _ p => ?_) (fun i u H' hu p => ?_) (fun H' p => ?_)
        · obtain ⟨_, _, _, s, _⟩ := p
          exact Same.sqT s ha
        · obtain ⟨y, hy, ry⟩ := ra.getV hu
          have s : Same H1 H' := by obtain ⟨_, _, _, s, _⟩ := p; exact s
          exact pc_turn er1 p hy (ry.same s) hz
        · rw [ra.length] at p
          exact lc_fin (EX := EX) (r := fun _ => .stuck) s1 (pc_done p (Nat.le_refl _))
      · exact k.elim
    | _ => exact k.elim
  | _ => exact k.elim
theorem lcL_read {te : TE} (qe : ∀ F σ H ρ Q, ER K F σ H ρ → WD K EX C H (f ρ) Q → te σ H Q) {F : Hp} {σ : St} {H : Hp} {ρ : Ev} {Q : VK} (er : ER K F σ H ρ) (w : WN K EX C H (lcN j f selL c el ρ) Q) :
    tLc (iList K te) (gName j) (cT K E0 C c) (cN K E0 C el) [j] σ H Q := by
  unfold lcN at w
  refine qe F σ H ρ _ er ((Wp.bind (Wp.bind w)).imp fun d _ k v H1 s1 r1 => ?_)
  cases d with
  | lst xs =>
    obtain ⟨a, vs, rfl, ha, ra⟩ := r1
    refine ⟨a, rfl, ⟨vs, SqL.of ha⟩, fun Dd hD => ?_⟩
    have k : WN K EX C H (if xs.length ≤ 16777216 then NR (lcR j c el (ρ.set j .un) xs) >>= fun r => .ok (.lst r) else .stuck) Q := k
    split at k
    · rename_i hz
      have w0 := (Wp.nr (EX' := E0) (Wp.bind k)).mono s1 fun _ _ q => q
      have er1 := (er.mono s1).wipe1 j
      refine lc_list (xs := vs) (Pc K C H1 Dd j c el (ρ.set j .un) xs xs.length _) (lc_start hD w0) (fun i H' _ p => ?_) (fun i u H' hu p => ?_) (fun H' p => ?_)
      · obtain ⟨_, _, _, s, _⟩ := p
        exact SqL.of (s _ _ ha)
      · obtain ⟨y, hy, ry⟩ := ra.getV hu
        have s : Same H1 H' := by obtain ⟨_, _, _, s, _⟩ := p; exact s
        exact pc_turn er1 p hy (ry.same s) hz
      · rw [ra.length] at p
        exact lc_fin (EX := EX) (r := fun _ => .stuck) s1 (pc_done p (Nat.le_refl _))
    · exact k.elim
  | _ => exact k.elim
def lcRg (j : Nat) (f : Ev → R (List D)) (rg : List D → R (Int × Nat)) (c : Ev → R Bool) (el : Ev → R D) (ρ : Ev) : R D :=
  f ρ >>= rg >>= fun p => if p.2 ≤ 16777216 then NR (lcR j c el (ρ.set j .un) (rngT p.1 p.2)) >>= fun r => .ok (.lst r) else .stuck
theorem lcR1_read {ta : TA} {f : Ev → R (List D)} (qe : ∀ F σ H ρ Q, ER K F σ H ρ → WA K EX C H (f ρ) Q → ta σ H Q) {F : Hp} {σ : St} {H : Hp} {ρ : Ev} {Q : VK} (er : ER K F σ H ρ) (w : WN K EX C H (lcRg j f rng1 c el ρ) Q) :
    tLc (iRng1 ta) (gName j) (cT K E0 C c) (cN K E0 C el) [j] σ H Q := by
  unfold lcRg at w
  refine qe F σ H ρ _ er ((Wp.bind (Wp.bind w)).imp fun ds _ k vs H1 s1 r1 => ?_)
  obtain ⟨n, rfl, g1, g2, k⟩ := rng1_ok r1 (Wp.mono k s1 fun _ _ q => q)
  refine ⟨n, rfl, g1, g2, fun Dd hD => ?_⟩
  have k : WN K EX C H (if n.toNat ≤ 16777216 then NR (lcR j c el (ρ.set j .un) (rngT 0 n.toNat)) >>= fun r => .ok (.lst r) else .stuck) Q := k
  split at k
  · rename_i hz
    have w0 := (Wp.nr (EX' := E0) (Wp.bind k)).mono s1 fun _ _ q => q
    have er1 := (er.mono s1).wipe1 j
    refine lc_range (lo := 0) (n := n.toNat) (Pc K C H1 Dd j c el (ρ.set j .un) (rngT 0 n.toNat) (rngT 0 n.toNat).length _) (lc_start hD w0) (fun i H' hi p => ?_) (fun H' p => ?_)
    · exact pc_turn er1 p (rngT_get hi) (by unfold RT; rfl) (by rw [rngT_len]; exact hz)
    · rw [rngT_len] at p
      exact lc_fin (EX := EX) (r := fun _ => .stuck) s1 (pc_done p (by rw [rngT_len]; exact Nat.le_refl _))
  · exact k.elim
theorem lcR2_read {ta : TA} {f : Ev → R (List D)} (qe : ∀ F σ H ρ Q, ER K F σ H ρ → WA K EX C H (f ρ) Q → ta σ H Q) {F : Hp} {σ : St} {H : Hp} {ρ : Ev} {Q : VK} (er : ER K F σ H ρ) (w : WN K EX C H (lcRg j f rng2 c el ρ) Q) :
    tLc (iRng2 ta) (gName j) (cT K E0 C c) (cN K E0 C el) [j] σ H Q := by
  unfold lcRg at w
  refine qe F σ H ρ _ er ((Wp.bind (Wp.bind w)).imp fun ds _ k vs H1 s1 r1 => ?_)
  obtain ⟨m, n, rfl, g1, k⟩ := rng2_ok r1 (Wp.mono k s1 fun _ _ q => q)
  refine ⟨m, n, rfl, g1, fun Dd hD => ?_⟩
  have k : WN K EX C H (if (n - m).toNat ≤ 16777216 then NR (lcR j c el (ρ.set j .un) (rngT m (n - m).toNat)) >>= fun r => .ok (.lst r) else .stuck) Q := k
  split at k
  · rename_i hz
    have w0 := (Wp.nr (EX' := E0) (Wp.bind k)).mono s1 fun _ _ q => q
    have er1 := (er.mono s1).wipe1 j
    refine lc_range (lo := m) (n := (n - m).toNat) (Pc K C H1 Dd j c el (ρ.set j .un) (rngT m (n - m).toNat) (rngT m (n - m).toNat).length _) (lc_start hD w0) (fun i H' hi p => ?_) (fun H' p => ?_)
    · exact pc_turn er1 p (rngT_get hi) (by unfold RT; rfl) (by rw [rngT_len]; exact hz)
    · rw [rngT_len] at p
      exact lc_fin (EX := EX) (r := fun _ => .stuck) s1 (pc_done p (by rw [rngT_len]; exact Nat.le_refl _))
  · exact k.elim
end
/-- a block's parts -/
abbrev Blk (X : Cx) (scope : Scope) (P : Cx → Prop) : Prop := ∀ (s : Shared) (H : Hp) (A : Addr) (cl : List (Str × Addr)) (fp : List Addr), P (X.blk s H scope (compEnvC scope cl A X.env) fp)
section
variable {elt tg iter e1 e2 : Expr} {c0 : Expr} {scope : Scope} {x : Str} {j : Nat} {c : Ev → R Bool} {el : Ev → R D} {h : Ev → R (List D)} {cpos p : Pos}
theorem pts_can1 {Y : Cx} (hc : ST Y EX C c0 c) : PTs Y [c0] (cT Y.K EX C c) := pts_one hc.can
theorem pts_can0 {Y : Cx} : PTs Y [] (cT Y.K EX C (fun _ => .ok true)) := by
  refine ⟨fun pins s σ H Q I w => ?_⟩
  obtain ⟨F, ρ, er, w⟩ := w
  exact pts_nil.run pins s σ H Q I (w H (Same.refl H))
variable {ifs : List Expr}
theorem sn_lcT (hc : X.calm = true) (hN : X.N.Nodup) (he : SE X EX C iter f) (ok : BlkOk X.N X.env.scope scope [(x, j)]) (hg : Blk X scope fun Y => PG Y tg (gName j)) (ht : Blk X scope fun Y => PTs Y ifs (cT Y.K E0 C c)) (hl : Blk X scope fun Y => SN Y E0 C elt el)
    (hs : ∀ x, foldedSetIterable iter X.env x = pure x := by intro _; rfl) : SN X EX C (.ListComp elt [⟨tg, iter, ifs, 0⟩] scope pos) (lcN j f selT c el) := by
  obtain ⟨te, pe, qe⟩ := he
  exact ⟨_, pe_lc hc hN (pi_tup pe) ok hg ht (fun s H A cl fp => (hl s H A cl fp).can) hs, fun F σ H ρ Q er w => lcT_read qe er w⟩
theorem sn_lcL (hc : X.calm = true) (hN : X.N.Nodup) (he : SE X EX C iter f) (ok : BlkOk X.N X.env.scope scope [(x, j)]) (hg : Blk X scope fun Y => PG Y tg (gName j)) (ht : Blk X scope fun Y => PTs Y ifs (cT Y.K E0 C c)) (hl : Blk X scope fun Y => SN Y E0 C elt el)
    (hs : ∀ x, foldedSetIterable iter X.env x = pure x := by intro _; rfl) : SN X EX C (.ListComp elt [⟨tg, iter, ifs, 0⟩] scope pos) (lcN j f selL c el) := by
  obtain ⟨te, pe, qe⟩ := he
  exact ⟨_, pe_lc hc hN (pi_list pe) ok hg ht (fun s H A cl fp => (hl s H A cl fp).can) hs, fun F σ H ρ Q er w => lcL_read qe er w⟩
theorem sn_lcR1 (hc : X.calm = true) (hN : X.N.Nodup) (hm : X.mg "range" = none) (he : SA X EX C [e1] h) (ok : BlkOk X.N X.env.scope scope [(x, j)]) (hg : Blk X scope fun Y => PG Y tg (gName j)) (ht : Blk X scope fun Y => PTs Y ifs (cT Y.K E0 C c)) (hl : Blk X scope fun Y => SN Y E0 C elt el)
    (hgl : Gl X "range" := by rfl) (h1 : starEach [e1] X.env = [(false, eval e1 X.env)] := by rfl)
    (hs : ∀ x, foldedSetIterable (.Call (.Name "range" p) [e1] [] cpos) X.env x = pure x := by intro _; rfl) : SN X EX C (.ListComp elt [⟨tg, .Call (.Name "range" p) [e1] [] cpos, ifs, 0⟩] scope pos) (lcRg j h rng1 c el) := by
  obtain ⟨⟨te, pe, qe⟩, _⟩ := he
  exact ⟨_, pe_lc hc hN (pi_range1 hgl hm pe h1) ok hg ht (fun s H A cl fp => (hl s H A cl fp).can) hs, fun F σ H ρ Q er w => lcR1_read qe er w⟩
theorem sn_lcR2 (hc : X.calm = true) (hN : X.N.Nodup) (hm : X.mg "range" = none) (he : SA X EX C [e1, e2] h) (ok : BlkOk X.N X.env.scope scope [(x, j)]) (hg : Blk X scope fun Y => PG Y tg (gName j)) (ht : Blk X scope fun Y => PTs Y ifs (cT Y.K E0 C c)) (hl : Blk X scope fun Y => SN Y E0 C elt el)
    (hgl : Gl X "range" := by rfl) (h1 : starEach [e1, e2] X.env = [(false, eval e1 X.env), (false, eval e2 X.env)] := by rfl) (h2 : starEach [e2] X.env = [(false, eval e2 X.env)] := by rfl)
    (hs : ∀ x, foldedSetIterable (.Call (.Name "range" p) [e1, e2] [] cpos) X.env x = pure x := by intro _; rfl) : SN X EX C (.ListComp elt [⟨tg, .Call (.Name "range" p) [e1, e2] [] cpos, ifs, 0⟩] scope pos) (lcRg j h rng2 c el) := by
  obtain ⟨⟨te, pe, qe⟩, _⟩ := he
  exact ⟨_, pe_lc hc hN (pi_range2 hgl hm pe h1 h2) ok hg ht (fun s H A cl fp => (hl s H A cl fp).can) hs, fun F σ H ρ Q er w => lcR2_read qe er w⟩
/-- y = [..] -/
theorem set_lc {i : Nat} {t : TE} {F : Hp} {σ : St} {H : Hp} {ρ : Ev} {Dn : Ends} {lc : Ev → R D} (er : ER X.K F σ H ρ) (ht : ∀ Q, WN X.K EX C H (lc ρ) Q → t σ H Q) (w : WS X.K EX C F H Dn (setO i lc ρ)) : tAsg t (gName i) Dn σ H := by
  refine ht _ ((WS.bind w er.same).imp fun d _ k v H1 s1 r1 => ?_)
  exact k F _ H1 (Same.refl F) (Same.tups s1) (er.store s1 r1)
variable {i : Nat} {y : Str} {py spos : Pos}
theorem ss_lcT (hc : X.calm = true) (hN : X.N.Nodup) (hy : X.N[i]? = some y) (hyl : X.env.scope.names.lookup y = some .local) (hsw : swapsWith (.ListComp elt [⟨tg, iter, ifs, 0⟩] scope pos) (some (.Name y py)) spos.line X.env = pure true)
    (he : SE X EX C iter f) (ok : BlkOk X.N X.env.scope scope [(x, j)]) (hg : Blk X scope fun Y => PG Y tg (gName j)) (ht : Blk X scope fun Y => PTs Y ifs (cT Y.K E0 C c)) (hl : Blk X scope fun Y => SN Y E0 C elt el)
    (hs : ∀ x, foldedSetIterable iter X.env x = pure x := by intro _; rfl) : SS X EX C (.Assign [.Name y py] (.ListComp elt [⟨tg, iter, ifs, 0⟩] scope pos) spos) (setO i (lcN j f selT c el)) := by
  obtain ⟨te, pe, qe⟩ := he
  exact ⟨_, ps_setLc hc hN hy hyl hsw (pi_tup pe) ok hg ht (fun s H A cl fp => (hl s H A cl fp).can) hs, fun F σ H ρ D er w => set_lc er (fun Q w => lcT_read qe er w) w⟩
theorem ss_lcL (hc : X.calm = true) (hN : X.N.Nodup) (hy : X.N[i]? = some y) (hyl : X.env.scope.names.lookup y = some .local) (hsw : swapsWith (.ListComp elt [⟨tg, iter, ifs, 0⟩] scope pos) (some (.Name y py)) spos.line X.env = pure true)
    (he : SE X EX C iter f) (ok : BlkOk X.N X.env.scope scope [(x, j)]) (hg : Blk X scope fun Y => PG Y tg (gName j)) (ht : Blk X scope fun Y => PTs Y ifs (cT Y.K E0 C c)) (hl : Blk X scope fun Y => SN Y E0 C elt el)
    (hs : ∀ x, foldedSetIterable iter X.env x = pure x := by intro _; rfl) : SS X EX C (.Assign [.Name y py] (.ListComp elt [⟨tg, iter, ifs, 0⟩] scope pos) spos) (setO i (lcN j f selL c el)) := by
  obtain ⟨te, pe, qe⟩ := he
  exact ⟨_, ps_setLc hc hN hy hyl hsw (pi_list pe) ok hg ht (fun s H A cl fp => (hl s H A cl fp).can) hs, fun F σ H ρ D er w => set_lc er (fun Q w => lcL_read qe er w) w⟩
theorem ss_lcR1 (hc : X.calm = true) (hN : X.N.Nodup) (hy : X.N[i]? = some y) (hyl : X.env.scope.names.lookup y = some .local) (hsw : swapsWith (.ListComp elt [⟨tg, .Call (.Name "range" p) [e1] [] cpos, ifs, 0⟩] scope pos) (some (.Name y py)) spos.line X.env = pure true)
    (hm : X.mg "range" = none) (he : SA X EX C [e1] h) (ok : BlkOk X.N X.env.scope scope [(x, j)]) (hg : Blk X scope fun Y => PG Y tg (gName j)) (ht : Blk X scope fun Y => PTs Y ifs (cT Y.K E0 C c)) (hl : Blk X scope fun Y => SN Y E0 C elt el)
    (hgl : Gl X "range" := by rfl) (h1 : starEach [e1] X.env = [(false, eval e1 X.env)] := by rfl)
    (hs : ∀ x, foldedSetIterable (.Call (.Name "range" p) [e1] [] cpos) X.env x = pure x := by intro _; rfl) : SS X EX C (.Assign [.Name y py] (.ListComp elt [⟨tg, .Call (.Name "range" p) [e1] [] cpos, ifs, 0⟩] scope pos) spos) (setO i (lcRg j h rng1 c el)) := by
  obtain ⟨⟨te, pe, qe⟩, _⟩ := he
  exact ⟨_, ps_setLc hc hN hy hyl hsw (pi_range1 hgl hm pe h1) ok hg ht (fun s H A cl fp => (hl s H A cl fp).can) hs, fun F σ H ρ D er w => set_lc er (fun Q w => lcR1_read qe er w) w⟩
theorem ss_lcR2 (hc : X.calm = true) (hN : X.N.Nodup) (hy : X.N[i]? = some y) (hyl : X.env.scope.names.lookup y = some .local) (hsw : swapsWith (.ListComp elt [⟨tg, .Call (.Name "range" p) [e1, e2] [] cpos, ifs, 0⟩] scope pos) (some (.Name y py)) spos.line X.env = pure true)
    (hm : X.mg "range" = none) (he : SA X EX C [e1, e2] h) (ok : BlkOk X.N X.env.scope scope [(x, j)]) (hg : Blk X scope fun Y => PG Y tg (gName j)) (ht : Blk X scope fun Y => PTs Y ifs (cT Y.K E0 C c)) (hl : Blk X scope fun Y => SN Y E0 C elt el)
    (hgl : Gl X "range" := by rfl) (h1 : starEach [e1, e2] X.env = [(false, eval e1 X.env), (false, eval e2 X.env)] := by rfl) (h2 : starEach [e2] X.env = [(false, eval e2 X.env)] := by rfl)
    (hs : ∀ x, foldedSetIterable (.Call (.Name "range" p) [e1, e2] [] cpos) X.env x = pure x := by intro _; rfl) : SS X EX C (.Assign [.Name y py] (.ListComp elt [⟨tg, .Call (.Name "range" p) [e1, e2] [] cpos, ifs, 0⟩] scope pos) spos) (setO i (lcRg j h rng2 c el)) := by
  obtain ⟨⟨te, pe, qe⟩, _⟩ := he
  exact ⟨_, ps_setLc hc hN hy hyl hsw (pi_range2 hgl hm pe h1 h2) ok hg ht (fun s H A cl fp => (hl s H A cl fp).can) hs, fun F σ H ρ D er w => set_lc er (fun Q w => lcR2_read qe er w) w⟩
end
/-! ### two assignments in one -/
theorem ss_par {i j : Nat} {x y : Str} {e1 e2 : Expr} {h : Ev → R (List D)} {px py pt : Pos} {kt k2 pt2} (hc : X.calm = true) (hN : X.N.Nodup) (hi : X.N[i]? = some x) (hj : X.N[j]? = some y) (hij : i ≠ j)
    (hx : X.env.scope.names.lookup x = some .local) (hy : X.env.scope.names.lookup y = some .local) (ha : SA X EX C [e1, e2] h) (hp : ∀ ta, PA X [e1, e2] ta → PS X (.Assign [.Tuple [.Name x px, .Name y py] kt pt] (.Tuple [e1, e2] k2 pt2) pos) (tPar i j ta)) :
    SS X EX C (.Assign [.Tuple [.Name x px, .Name y py] kt pt] (.Tuple [e1, e2] k2 pt2) pos) (fun ρ => h ρ >>= fun ds => match ds with
      | [.t x, .t y] => .ok (.nx ((ρ.set i (.d (.t x) true)).set j (.d (.t y) true)))
      | _ => .stuck) := by
  obtain ⟨⟨te, pe, qe⟩, _⟩ := ha
  refine ⟨_, hp te pe, fun F σ H ρ D er w => ?_⟩
  refine qe F σ H ρ _ er ((WS.bind w er.same).imp fun ds _ k vs H1 s1 r1 => ?_)
  split at k
  · obtain ⟨v, u, rfl, h1, h2⟩ := rd2 r1
    exact ⟨v, u, rfl, k F _ H1 (Same.refl F) (Same.tups s1) ((er.store (x := .t _) s1 h1).store (x := .t _) (Same.refl H1) h2)⟩
  · exact k.elim
end
/-! ## a def -/
def un (n : Nat) : Ev := List.replicate n Sl.un
def runDef (n : Nat) (g : Ev → R Out) (ds : List D) : R D := g (ds.map (Sl.d · false) ++ un n) >>= fun o => match o with
  | .rt d => .ok d
  | .nx _ => .ok (.t .non)
  | _ => .stuck
theorem er_start {K : PySem.W.Frag} {H : Hp} {N : List Str} {ds : List D} {vs : List V} (r : RDs K H ds vs) : ER K H (L2.start N vs) H (ds.map (Sl.d · false) ++ un (N.length - vs.length)) := by
  have get : ∀ {ds : List D} {vs : List V}, RDs K H ds vs → ∀ (i : Nat) x, ds[i]? = some x → ∃ v, vs[i]? = some v ∧ RD K H x v := by
    intro ds
    induction ds with
    | nil => intro vs r i x h; simp at h
    | cons d ds ih =>
      intro vs r i x h
      obtain ⟨v, ws, rfl, h1, h2⟩ := r
      cases i with
      | zero => simp at h; subst h; exact ⟨v, rfl, h1⟩
      | succ i => simpa using ih h2 i x (by simpa using h)
  have key : ∀ (i : Nat) x o, (ds.map (Sl.d · false) ++ un (N.length - vs.length))[i]? = some (.d x o) → o = false ∧ ∃ v, (L2.start N vs)[i]? = some (some v) ∧ RD K H x v := by
    intro i x o h
    by_cases hi : i < ds.length
    · rw [List.getElem?_append_left (by simpa using hi), List.getElem?_map] at h
      cases e : ds[i]? with
      | none => rw [e] at h; cases h
      | some y =>
        rw [e] at h
        cases h
        obtain ⟨v, h1, h2⟩ := get r i _ e
        refine ⟨rfl, v, ?_, h2⟩
        unfold L2.start
        rw [List.getElem?_append_left (by rw [List.length_map, r.length]; exact hi), List.getElem?_map, h1]; rfl
    · exfalso
      rw [List.getElem?_append_right (by simpa using hi)] at h
      unfold un at h
      have := List.mem_of_getElem? h
      cases (List.eq_of_mem_replicate this)
  refine ⟨Same.refl H, fun i x o h => ?_, fun i j x y v u b h1 => ?_, ?_, fun i v h => ?_⟩
  rotate_right
  · exfalso
    by_cases hi : i < ds.length
    · rw [List.getElem?_append_left (by simpa using hi), List.getElem?_map] at h
      cases e : ds[i]? with
      | none => rw [e] at h; cases h
      | some y => rw [e] at h; cases h
    · rw [List.getElem?_append_right (by simpa using hi)] at h
      unfold un at h
      cases (List.eq_of_mem_replicate (List.mem_of_getElem? h))
  · obtain ⟨rfl, v, h1, h2⟩ := key i x o h
    exact ⟨v, h1, fun e => by (cases e), fun _ => h2⟩
  · obtain ⟨e, _⟩ := key i x true h1
    cases e
  · unfold L2.start un
    simp [r.length]
section
variable {P : Program} {w : World} {K : PySem.W.Frag} {mg : Str → Option Value} {base : Heap} {C : Nat → Addr}
/-- THE RULE for a def: by its body's judgement -/
theorem fn_def {x qual : Str} {st : Stmt} {f : Addr} {fd : FuncData} {N ps : List Str} {k : Nat} {g : Ev → R Out} (F : Fun K x qual st f fd) (S : FnScope N ps (defScope st)) (hps : ps.length ≤ N.length)
    (hb : ∀ (cdv : Value) (A : Around) (outer : List Env) (s : Shared) (H : Hp) (E : XK), Room k (A.deeper (PyProof.Rows.envOfC qual (defScope st) s.heap.objs.size f cdv)) →
      SB (cxOf (L2N.CX P w) P w K mg base N qual (defScope st) f cdv A outer s H E) E C (defBody st) g) :
    FnOk P w K mg base (L2N.CX P w) (k + 1) f fd ps (spR K C ps.length (runDef (N.length - ps.length) g)) := by
  obtain ⟨oc, od, kV, doc, pm, an, cdv, ct, osl, rfl, lk, hcd⟩ := F.ex
  refine fn_of lk hcd S (fun vs H Q E h => ?_) (fun A outer s H vs Q E hr h => ?_)
  · obtain ⟨ds, h1, _⟩ := h
    exact h1
  · obtain ⟨ds, h1, r, q⟩ := h
    obtain ⟨ts, p, qs⟩ := hb cdv A outer s H E hr
    refine ⟨ts, p, qs H _ H _ _ (er_start r) ?_⟩
    rw [h1]
    unfold runDef at q
    cases e : g (ds.map (Sl.d · false) ++ un (N.length - ps.length)) with
    | ok o =>
      rw [e] at q
      cases o with
      | nx ρ => exact fun F' σ' H' s' _ er' => q .non H' (s'.trans er'.same) (by show RT _ _ _ _; unfold RT; rfl)
      | rt d => exact fun v H' s' r' => q v H' s' r'
      | bk ρ => exact (show False from q).elim
      | ct ρ => exact (show False from q).elim
    | raise c => rw [e] at q; exact q
    | stuck => rw [e] at q; exact (show False from q).elim
end
/-- what a def's body may let out: passes -/
theorem passX {P : Program} {w : World} {K : PySem.W.Frag} {mg : Str → Option Value} {base : Heap} {N : List Str} {qual : Str} {scope : Scope} {f : Addr} {cdv : Value} {A : Around} {outer : List Env} {s : Shared} {H : Hp} {E : XK} :
    Passes (L2N.CX P w) (cxOf (L2N.CX P w) P w K mg base N qual scope f cdv A outer s H E) E :=
  L2N.passes_call (W := fun cls d _ H => E cls d H) (L2N.takes_of rfl rfl rfl rfl) (fun _ _ _ _ h => h)
theorem takesX {P : Program} {w : World} {K : PySem.W.Frag} {mg : Str → Option Value} {base : Heap} {N : List Str} {qual : Str} {scope : Scope} {f : Addr} {cdv : Value} {A : Around} {outer : List Env} {s : Shared} {H : Hp} {E : XK} :
    L2N.Takes (cxOf (L2N.CX P w) P w K mg base N qual scope f cdv A outer s H E) (fun cls d _ H => E cls d H) := L2N.takes_of rfl rfl rfl rfl
theorem passL {X : Cx} : Passes (L2N.CX X.prog X.w) X E0 := fun _ _ _ _ _ _ _ h => by
  obtain ⟨_, _, _, _, _, _, _, _, _, _, _, _, z⟩ := h
  exact z.elim
end Pf

set_option Elab.async false
set_option linter.all false
set_option maxRecDepth 100000
set_option maxHeartbeats 2000000
namespace Pf
open PySem L2
/-! ## short words for what gen.py prints -/
@[simp] def kI (i : Int) (_ : Ev) : R D := .ok (.t (.int i))
@[simp] def kS (s : Str) (_ : Ev) : R D := .ok (.t (.str s))
@[simp] def kB (b : Bool) (_ : Ev) : R D := .ok (.t (.bl b))
@[simp] def kN (_ : Ev) : R D := .ok (.t .non)
@[simp] def kT (t : T) (_ : Ev) : R D := .ok (.t t)
@[simp] def kD (_ : Ev) : R D := .ok (.dct [])
@[simp] def b2 (op : D → D → R D) (f g : Ev → R D) (ρ : Ev) : R D := f ρ >>= fun x => g ρ >>= fun y => op x y
@[simp] def u1 (op : D → R D) (f : Ev → R D) (ρ : Ev) : R D := f ρ >>= op
@[simp] def nA (_ : Ev) : R (List D) := .ok []
@[simp] def cA (f : Ev → R D) (h : Ev → R (List D)) (ρ : Ev) : R (List D) := f ρ >>= fun x => h ρ >>= fun xs => .ok (x :: xs)
@[simp] def ap (op : List D → R D) (h : Ev → R (List D)) (ρ : Ev) : R D := h ρ >>= op
@[simp] def sN (_ : Ev) : R (Option Int) := .ok none
@[simp] def sS (f : Ev → R D) (ρ : Ev) : R (Option Int) := f ρ >>= asInt
@[simp] def sl3 (f : Ev → R D) (l h : Ev → R (Option Int)) (ρ : Ev) : R D := f ρ >>= fun d => l ρ >>= fun l => h ρ >>= fun h => slD d l h
@[simp] def tV (f : Ev → R D) (ρ : Ev) : R Bool := f ρ >>= asB
@[simp] def tAnd2 (f g : Ev → R Bool) (ρ : Ev) : R Bool := andR (f ρ) (g ρ)
@[simp] def tOr2 (f g : Ev → R Bool) (ρ : Ev) : R Bool := orR (f ρ) (g ρ)
@[simp] def tNot1 (f : Ev → R Bool) (ρ : Ev) : R Bool := f ρ >>= fun b => .ok (!b)
@[simp] def vAnd (f g : Ev → R D) (ρ : Ev) : R D := andV (f ρ) (g ρ)
@[simp] def vOr (f g : Ev → R D) (ρ : Ev) : R D := orV (f ρ) (g ρ)
@[simp] def vNot (f : Ev → R D) (ρ : Ev) : R D := f ρ >>= asB >>= fun b => .ok (.t (.bl (!b)))
@[simp] def dg2 (f g h : Ev → R D) (ρ : Ev) : R D := f ρ >>= asDct >>= fun d => g ρ >>= fun k => h ρ >>= fun x => dget2 d k x
@[simp] def nxO (ρ : Ev) : R Out := .ok (.nx ρ)
@[simp] def yes (_ : Ev) : R Bool := .ok true
@[simp] def neverO (_ : Ev) : R Out := .stuck
@[simp] def parO2 (i j : Nat) (h : Ev → R (List D)) (ρ : Ev) : R Out := h ρ >>= fun ds => match ds with
  | [.t x, .t y] => .ok (.nx ((ρ.set i (.d (.t x) true)).set j (.d (.t y) true)))
  | _ => .stuck

/-- a def stands at the module's name x -/
def DefAt (K : PySem.W.Frag) (mg : Str → Option Value) (x : Str) (st : Stmt) : Prop := ∃ fa fd, Fun K x x st fa fd ∧ mg x = some (.ref fa)
/-- .. and keeps its promise -/
def Cal (P : Program) (w : World) (K : PySem.W.Frag) (mg : Str → Option Value) (base : Heap) (C : Nat → Addr) (x : Str) (k : Nat) (n : Nat) (g : List D → R D) : Prop :=
  ∃ fa fd ps, ps.length = n ∧ FnOk P w K mg base (L2N.CX P w) k fa fd ps (spR K C n g) ∧ mg x = some (.ref fa) ∧ PySem.W.keepIn K (.ref fa) = true ∧ Binds K fd ps []
section
variable {P : Program} {w : World} {K : PySem.W.Frag} {mg : Str → Option Value} {base : Heap} {C : Nat → Addr}
theorem Cal.mono {x : Str} {j k n : Nat} {g : List D → R D} (h : Cal P w K mg base C x j n g) (hk : j ≤ k) : Cal P w K mg base C x k n g := by
  obtain ⟨fa, fd, ps, h1, h2, h3⟩ := h
  exact ⟨fa, fd, ps, h1, h2.mono hk, h3⟩
/-- a def by its body -/
theorem cal_def {x : Str} {st : Stmt} {N ps : List Str} {k n m : Nat} {g : Ev → R Out} (D : DefAt K mg x st) (S : FnScope N ps (defScope st))
    (hbi : ∀ (kV doc pm : Value) (an : Option Addr) (cdv ct : Value) (us : List Value), us.length = ps.length → bindArgs (PySem.W.fnOf x x (defArgs st) (defBody st) (defScope st) .none kV doc pm an cdv ct) ⟨us, []⟩ = pure (ps.zip us))
    (hn : ps.length = n) (hm : N.length - ps.length = m) (hps : ps.length ≤ N.length)
    (hb : ∀ (f : Addr) (cdv : Value) (A : Around) (outer : List Env) (s : Shared) (H : Hp) (E : XK), Room k (A.deeper (PyProof.Rows.envOfC x (defScope st) s.heap.objs.size f cdv)) →
      SB (cxOf (L2N.CX P w) P w K mg base N x (defScope st) f cdv A outer s H E) E C (defBody st) g) : Cal P w K mg base C x (k + 1) n (runDef m g) := by
  obtain ⟨fa, fd, F, hg⟩ := D
  subst hn hm
  exact ⟨fa, fd, ps, rfl, fn_def F S hps (fun cdv A outer s H E hr => hb fa cdv A outer s H E hr), hg, F.kp, F.binds hbi⟩
/-- nothing is promised -/
theorem cal_none {x : Str} {st : Stmt} {ps : List Str} {k n : Nat} (D : DefAt K mg x st) (hbi : ∀ (kV doc pm : Value) (an : Option Addr) (cdv ct : Value) (us : List Value), us.length = ps.length → bindArgs (PySem.W.fnOf x x (defArgs st) (defBody st) (defScope st) .none kV doc pm an cdv ct) ⟨us, []⟩ = pure (ps.zip us))
    (hn : ps.length = n) : Cal P w K mg base C x k n (fun _ => .stuck) := by
  obtain ⟨fa, fd, F, hg⟩ := D
  refine ⟨fa, fd, ps, hn, ⟨fun vs H Q E h => ?_, fun A outer s H args us vs Q E _ _ _ _ h => ?_⟩, hg, F.kp, F.binds hbi⟩
  · obtain ⟨ds, h1, _⟩ := h
    rw [hn]; exact h1
  · obtain ⟨ds, _, _, q⟩ := h
    exact (show False from q).elim
end
section
variable {X : Cx} {EX : XK} {C : Nat → Addr} {a b : Expr} {f g : Ev → R D} {pos : Pos}
theorem sn_cal {x : Str} {k n : Nat} {gr : List D → R D} {es : List Expr} {h : Ev → R (List D)} {p : Pos}
    (c : Cal X.prog X.w X.K X.mg X.base C x k n gr) (hr : Room k X.A) (hx : Passes (L2N.CX X.prog X.w) X EX)
    (ha : SA X EX C (a :: es) h) (hlen : n = es.length + 1 := by rfl) (hg : Gl X x := by rfl) (hdb : (x == ("__debug__" : Str)) = false := by decide) (he : starEach (a :: es) X.env = (false, eval a X.env) :: starEach es X.env := by rfl) (hpl : (backTo pos (starEach es X.env)).any (·.1) = false := by rfl) :
    SN X EX C (.Call (.Name x p) (a :: es) [] pos) (ap gr h) := by
  obtain ⟨fa, fd, ps, h1, h2, h3, h4, h5⟩ := c
  exact sn_call h2 hr h3 h4 h5 hx ha hlen hg hdb he hpl
theorem sn_len (ha : SA X EX C [a] h) (hm : X.mg "len" = none) {p : Pos} (hg : Gl X "len" := by rfl) (he : starEach (a :: []) X.env = (false, eval a X.env) :: starEach [] X.env := by rfl) (hpl : (backTo pos (starEach [] X.env)).any (·.1) = false := by rfl) : SN X EX C (.Call (.Name "len" p) [a] [] pos) (ap lenD h) :=
  sn_callB cr_len im_len ha hm PySem.boot_len hg (by decide) (by decide) he hpl
theorem sn_list (ha : SA X EX C [a] h) (hm : X.mg "list" = none) {p : Pos} (hg : Gl X "list" := by rfl) (he : starEach (a :: []) X.env = (false, eval a X.env) :: starEach [] X.env := by rfl) (hpl : (backTo pos (starEach [] X.env)).any (·.1) = false := by rfl) : SN X EX C (.Call (.Name "list" p) [a] [] pos) (ap listD h) :=
  sn_callTy call_list_of im_list ha hm (by decide +kernel) hg (by decide) (by decide) he hpl
theorem sn_tuple (ha : SA X EX C [a] h) (hm : X.mg "tuple" = none) {p : Pos} (hg : Gl X "tuple" := by rfl) (he : starEach (a :: []) X.env = (false, eval a X.env) :: starEach [] X.env := by rfl) (hpl : (backTo pos (starEach [] X.env)).any (·.1) = false := by rfl) : SN X EX C (.Call (.Name "tuple" p) [a] [] pos) (ap tupleD h) :=
  sn_callTy call_tuple_of im_tuple ha hm (by decide +kernel) hg (by decide) (by decide) he hpl
theorem sn_dict (ha : SA X EX C [a] h) (hm : X.mg "dict" = none) {p : Pos} (hg : Gl X "dict" := by rfl) (he : starEach (a :: []) X.env = (false, eval a X.env) :: starEach [] X.env := by rfl) (hpl : (backTo pos (starEach [] X.env)).any (·.1) = false := by rfl) : SN X EX C (.Call (.Name "dict" p) [a] [] pos) (ap dictD h) :=
  sn_callTy cr_dict im_dict ha hm (by decide +kernel) hg (by decide) (by decide) he hpl
theorem sn_sum (hc : X.calm = true) (ha : SA X EX C [a] h) (hm : X.mg "sum" = none) {p : Pos} (hg : Gl X "sum" := by rfl) (he : starEach (a :: []) X.env = (false, eval a X.env) :: starEach [] X.env := by rfl) (hpl : (backTo pos (starEach [] X.env)).any (·.1) = false := by rfl) : SN X EX C (.Call (.Name "sum" p) [a] [] pos) (ap sumD h) :=
  sn_callB (cr_sum hc) im_sum ha hm (by decide +kernel) hg (by decide) (by decide) he hpl
theorem sn_int1 (ha : SA X EX C [a] h) (hm : X.mg "int" = none) {p : Pos} (hg : Gl X "int" := by rfl) (he : starEach (a :: []) X.env = (false, eval a X.env) :: starEach [] X.env := by rfl) (hpl : (backTo pos (starEach [] X.env)).any (·.1) = false := by rfl) : SN X EX C (.Call (.Name "int" p) [a] [] pos) (ap intD h) :=
  sn_callTy call_int1 im_int ha hm (by decide +kernel) hg (by decide) (by decide) he hpl
theorem sn_abs (ha : SA X EX C [a] h) (hm : X.mg "abs" = none) {p : Pos} (hg : Gl X "abs" := by rfl) (he : starEach (a :: []) X.env = (false, eval a X.env) :: starEach [] X.env := by rfl) (hpl : (backTo pos (starEach [] X.env)).any (·.1) = false := by rfl) : SN X EX C (.Call (.Name "abs" p) [a] [] pos) (ap absD h) :=
  sn_callB call_abs im_abs ha hm (by decide +kernel) hg (by decide) (by decide) he hpl
theorem sn_sorted (hc : X.calm = true) (ha : SA X EX C [a] h) (hm : X.mg "sorted" = none) {p : Pos} (hg : Gl X "sorted" := by rfl) (he : starEach (a :: []) X.env = (false, eval a X.env) :: starEach [] X.env := by rfl) (hpl : (backTo pos (starEach [] X.env)).any (·.1) = false := by rfl) : SN X EX C (.Call (.Name "sorted" p) [a] [] pos) (ap sortedD h) :=
  sn_callB (cr_srtS hc) im_sorted ha hm (by decide +kernel) hg (by decide) (by decide) he hpl
end
/-! what a loop in a def's body must let pass -/
theorem passOwnX {P : Program} {w : World} {K : PySem.W.Frag} {mg : Str → Option Value} {base : Heap} {N : List Str} {qual : Str} {scope : Scope} {f : Addr} {cdv : Value} {A : Around} {outer : List Env} {s : Shared} {H : Hp} {E : XK} :
    PassesOwn (model P w) (cxOf (L2N.CX P w) P w K mg base N qual scope f cdv A outer s H E).A (cxOf (L2N.CX P w) P w K mg base N qual scope f cdv A outer s H E).env (cxOf (L2N.CX P w) P w K mg base N qual scope f cdv A outer s H E).xe :=
  passes_of rfl
end Pf

set_option Elab.async false
set_option linter.all false
set_option maxRecDepth 100000
set_option maxHeartbeats 2000000
namespace Pf
open PySem L2
section
variable {X : Cx} {EX : XK} {C : Nat → Addr} {a b : Expr} {f g : Ev → R D} {pos : Pos}
/-! ### comparisons as tests -/
theorem st_cmp {op : CmpOp} {r : R2} {op2 : D → D → R D} (ho : OpR X (compareOp op) r) (hi : Impl2 X EX C op2 r) (hm : behindInMarks op b = false) (ha : SE X EX C a f) (hb : SE X EX C b g) :
    ST X EX C (.Compare a [op] [b] pos) (tV (b2 op2 f g)) := by
  obtain ⟨ta, pa, qa⟩ := ha
  obtain ⟨tb, pb, qb⟩ := hb
  refine ⟨_, pt_cmpR ho pa pb hm, fun F σ H ρ Q er w => ?_⟩
  have w : WB EX C H ((f ρ >>= fun x => g ρ >>= fun y => op2 x y) >>= asB) Q := w
  have w := Wp.bind (Wp.bind w)
  refine qa F σ H ρ _ er (w.imp fun d1 _ k v1 H1 s1 r1 => ?_)
  refine qb F σ H1 ρ _ (er.mono s1) ((Wp.bind k).mono s1 fun d2 _ k2 v2 H2 s2 r2 => ?_)
  refine hi d1 d2 v1 v2 H2 _ (r1.same s2) r2 (Wp.mono k2 (s1.trans s2) fun d _ k3 v H3 s3 r3 => ?_)
  unfold asB at k3
  split at k3
  · rw [rt_bl r3.rd]
    exact ⟨_, rfl, k3 H3 ((s1.trans s2).trans s3)⟩
  · exact k3.elim
theorem st_lt (ha : SE X EX C a f) (hb : SE X EX C b g) : ST X EX C (.Compare a [.Lt] [b] pos) (tV (b2 ltD f g)) := st_cmp op_lt im_lt (nomark _) ha hb
theorem st_gt (ha : SE X EX C a f) (hb : SE X EX C b g) : ST X EX C (.Compare a [.Gt] [b] pos) (tV (b2 gtD f g)) := st_cmp op_gt im_gt (nomark _) ha hb
theorem st_ge (ha : SE X EX C a f) (hb : SE X EX C b g) : ST X EX C (.Compare a [.GtE] [b] pos) (tV (b2 geD f g)) := st_cmp op_ge im_ge (nomark _) ha hb
theorem st_le (ha : SE X EX C a f) (hb : SE X EX C b g) : ST X EX C (.Compare a [.LtE] [b] pos) (tV (b2 leD f g)) := st_cmp (OpR.or op_le op_le_str) im_le (nomark _) ha hb
theorem st_eq (hu : X.A.units + 64 < cLine) (ha : SE X EX C a f) (hb : SE X EX C b g) : ST X EX C (.Compare a [.Eq] [b] pos) (tV (b2 eqD f g)) := st_cmp (op_eqAll hu) im_eq (nomark _) ha hb
theorem st_ne (hu : X.A.units + 64 < cLine) (ha : SE X EX C a f) (hb : SE X EX C b g) : ST X EX C (.Compare a [.NotEq] [b] pos) (tV (b2 neD f g)) := st_cmp (op_neAll hu) im_ne (nomark _) ha hb
theorem st_is (ha : SE X EX C a f) (hb : SE X EX C b g) : ST X EX C (.Compare a [.Is] [b] pos) (tV (b2 isD f g)) := st_cmp op_isC im_is (nomark _) ha hb
theorem st_isn (ha : SE X EX C a f) (hb : SE X EX C b g) : ST X EX C (.Compare a [.IsNot] [b] pos) (tV (b2 isnD f g)) := st_cmp op_isnC im_isn (nomark _) ha hb
theorem st_in (hu : X.A.units + 1 < cLine) (ha : SE X EX C a f) (hb : SE X EX C b g) (hm : behindInMarks .In b = false := by rfl) : ST X EX C (.Compare a [.In] [b] pos) (tV (b2 inD f g)) := st_cmp (op_inAll hu) im_in hm ha hb
theorem st_nin (hu : X.A.units + 1 < cLine) (ha : SE X EX C a f) (hb : SE X EX C b g) (hm : behindInMarks .NotIn b = false := by rfl) : ST X EX C (.Compare a [.NotIn] [b] pos) (tV (b2 ninD f g)) := st_cmp (op_ninAll hu) im_nin hm ha hb
end
end Pf
namespace Pf
open PySem L2
section
variable {P : Program} {w : World} {K : PySem.W.Frag} {mg : Str → Option Value} {C : Nat → Addr} {h : Heap}
theorem def_at {x : Str} {st : Stmt} {f : Addr} {oc : Value} {od an : Option Addr} {osl : Array (Option Value)} {kV doc pm cdv ct : Value} (X : K.In h) (G : h.Ns mainGlobals mg) (a : PySem.W.nsIn K mainGlobals x = some (some (.ref f)))
    (l : K.lookup f = some ⟨oc, od, .func (PySem.W.fnOf x x (defArgs st) (defBody st) (defScope st) .none kV doc pm an cdv ct), osl⟩)
    (c : PySem.W.codeIn K cdv x = true) (k : PySem.W.keepIn K (.ref f) = true) : DefAt K mg x st := ⟨f, _, fun_mk l c k, PySem.W.mg_of X G a⟩
/-- the law's own def -/
theorem law_mk {y : Str} {st : Stmt} {N : List Str} {k m : Nat} {g : Ev → R Out} {fa : Addr} (D : DefAt K mg "law" st) (hfa : mg "law" = some (.ref fa)) (S : FnScope N [y] (defScope st))
    (hbi : ∀ (kV doc pm : Value) (an : Option Addr) (cdv ct : Value) (us : List Value), us.length = [y].length → bindArgs (PySem.W.fnOf "law" "law" (defArgs st) (defBody st) (defScope st) .none kV doc pm an cdv ct) ⟨us, []⟩ = pure ([y].zip us))
    (hm : N.length - 1 = m) (hps : 1 ≤ N.length)
    (hb : ∀ base : Heap, K.In base → base.Ns mainGlobals mg → ∀ (f : Addr) (cdv : Value) (A : Around) (outer : List Env) (s : Shared) (H : Hp) (E : XK), Room k (A.deeper (PyProof.Rows.envOfC "law" (defScope st) s.heap.objs.size f cdv)) →
      SB (cxOf (L2N.CX P w) P w K mg base N "law" (defScope st) f cdv A outer s H E) E C (defBody st) g) :
    ∃ fd : FuncData, (∀ (s : Shared) (u : Value), BindsTo s fd ⟨[u], []⟩ [(y, u)]) ∧ ∀ base : Heap, K.In base → base.Ns mainGlobals mg → FnOk P w K mg base (L2N.CX P w) (k + 1) fa fd [y] (spR K C 1 (runDef m g)) := by
  obtain ⟨f, fd, F, hg⟩ := D
  rw [hfa] at hg
  cases hg
  subst hm
  refine ⟨fd, fun s u => ?_, fun base kb nb => fn_def F S hps (fun cdv A outer s H E hr => hb base kb nb fa cdv A outer s H E hr)⟩
  obtain ⟨oc, od, kV, doc, pm, an, cdv, ct, osl, rfl, lk, hcd⟩ := F.ex
  exact .of_eq (hbi kV doc pm an cdv ct [u] rfl)
theorem cx_no {H : Hp} {s : Shared} {e : Value} {s' : Shared} (c : L2N.CX P w [] H s (fun _ _ _ => False) e s') : False := by
  obtain ⟨_, _, _, _, _, _, _, _, _, _, _, _, z⟩ := c
  exact z
def spOk (K : PySem.W.Frag) (m : List D → R D) : Sp := fun vs H Q E => ∃ ds d, vs.length = 1 ∧ RDs K H ds vs ∧ m ds = .ok d ∧ ∀ v H', Same H H' → RN K H H' d v → Q v H'
/-- a law over one row: the plain law gives its answer -/
theorem walk_law {l : PySem.W.OpenLaw} {q : Program} {loose : List Str} {XP : (Str → Option Value) → Heap → Prop} {YP : World → Heap → Prop} {d : DefRec} {K : Params → PySem.W.Frag} {k : Nat} {m : World → List D → R D} {y : Str}
    (hn : l.most = some 63) (hdf : d.params.defaults = []) (hr : Room k callerA) (hY : ∀ (w : World) (h : Heap), YP w h → (K w.params).In h)
    (pl : ∀ (w : World) (ns : List Int), ns.length ≤ 63 → m w [.scr ns] = .ok (.t (.bl true)))
    (F : ∀ (w : World) (mg : Str → Option Value) (fa : Addr) (h : Heap), (K w.params).In h → h.Ns mainGlobals mg → mg d.name = some (.ref fa) →
      ∃ (C : Nat → Addr) (fd : FuncData), (∀ (s : Shared) (u : Value), BindsTo s fd ⟨[u], []⟩ [(y, u)]) ∧ ∀ base : Heap, (K w.params).In base → base.Ns mainGlobals mg → FnOk l.prog w (K w.params) mg base (L2N.CX l.prog w) k fa fd [y] (spR (K w.params) C 1 (m w))) :
    PySem.W.WalkO q loose XP YP l.row.toRowW d [] (fun f vs => PySem.call f vs) :=
  L2.walk_of (n := 63) (k := k) (x := y) (CX := fun w => L2N.CX l.prog w) (sp := fun w => spOk (K w.params) (m w)) hn (by decide) hdf hr hY (fun w mg fa h KX G hm => by
      obtain ⟨C, fd, h1, h2⟩ := F w mg fa h KX G hm
      refine ⟨fd, h1, fun base kb nb => (h2 base kb nb).imp fun vs H Q E z => ?_⟩
      obtain ⟨ds, d, z1, z2, z3, z4⟩ := z
      exact ⟨ds, z1, z2, by rw [z3]; exact z4⟩)
    (fun w H a ns hl _ hS => ⟨[.scr ns], _, rfl, ⟨_, _, rfl, ⟨a, rfl, hS⟩, rfl⟩, pl w ns hl, fun v H' _ r => rt_bl r.rd⟩) fun w H s e s' z => cx_no z
end
end Pf

namespace Pf
open PySem L2
/-! ## words whose rules stand further on -/
@[simp] def raiseO (c : Nat) (_ : Ev) : R Out := .raise c
def joinD : D → D → R D
  | .t (.str a), .lst ts => match asStrs ts with
    | some ys => if (ys.map (·.length)).sum + ys.length * a.length ≤ 16777216 then .ok (.t (.str (Txt.join a ys))) else .stuck
    | none => .stuck
  | _, _ => .stuck
def t_YES : T := .tup [.str "and", .tup []]
def t_NO : T := .tup [.str "or", .tup []]
@[simp] def gl_YES (_ : Ev) : R D := .ok (.t t_YES)
@[simp] def gl_NO (_ : Ev) : R D := .ok (.t t_NO)
@[simp] def gl_LETTERS (_ : Ev) : R D := .ok (.t (.str "abcdefghijklmnopqrstuvwxyz"))
@[simp] def gl_MOST_WITHIN (_ : Ev) : R D := .ok (.t (.int 40))
@[simp] def gl_MOST_FIGURES (_ : Ev) : R D := .ok (.t (.int 60))
/-- each once -/
def onceS : List Str → List Str
  | [] => []
  | x :: r => if x ∈ r then onceS r else x :: onceS r
def ssetD : D → R D
  | .lst ts => match asStrs ts with
    | some xs => if xs.length < 4000 ∧ (onceS xs).length < 64 then .ok (.lst ((srtS (onceS xs)).map T.str)) else .stuck
    | none => .stuck
  | _ => .stuck
end Pf
namespace Pf
open PySem L2
def signs (z : Str) : List T := z.cps.toList.map fun c => T.str ⟨#[c]⟩
@[simp] def forSO (j : Nat) (f : Ev → R D) (body : Ev → R Out) (ρ : Ev) : R Out := f ρ >>= fun d => match d with
  | .t (.str z) => forR j body (signs z) ρ
  | _ => .stuck
end Pf

set_option Elab.async false
set_option linter.all false
set_option maxRecDepth 100000
set_option maxHeartbeats 4000000
namespace Pf
open PySem L2 PyProof.Rows
/-! ## sorted(set(texts)): a set of texts as the walk has it -/
def txO (e : Int × Value) : Str := match e.2 with | .str k _ => k | _ => Str.empty
def TxE (P : Program) (w : World) (e : Int × Value) : Prop := ∃ k tk, e.2 = Value.str k tk ∧ e.1 = (PySem.strKind P w).hash k
/-- the texts ks stand in the set at a -/
def TxS (P : Program) (w : World) (h : Heap) (a : Addr) (ks : List Str) : Prop :=
  ∃ o es ep t, h.get? a = some o ∧ o.ExactSet ∧ o.data = .set es ep t ∧ (∀ e ∈ es.toList, TxE P w e) ∧ (es.toList.map txO).Perm ks ∧ ks.Nodup ∧ es.size < scanBound ∧ t.fits es.size = true ∧ Ris t.place.toList ∧ (w.params.followText "set-order" = true ∨ t.led = true)
section
variable {P : Program} {w : World} {h h' : Heap} {a : Addr} {ks : List Str}
theorem TxS.move (R : TxS P w h a ks) (k : ∀ o, h.get? a = some o → h'.get? a = some o) : TxS P w h' a ks := by
  obtain ⟨o, es, ep, t, ho, r⟩ := R
  exact ⟨o, es, ep, t, k o ho, r⟩
theorem TxS.size (R : TxS P w h a ks) : ks.length < scanBound := by
  obtain ⟨o, es, ep, t, _, _, _, _, pm, _, hb, _⟩ := R
  rw [← pm.length_eq, List.length_map, Array.length_toList]; exact hb
theorem tx_elems {l : List (Int × Value)} (g : ∀ e ∈ l, TxE P w e) : ElemsOf (PySem.strKind P w) l := fun e he => by
  obtain ⟨k, tk, h1, h2⟩ := g e he
  refine ⟨⟨k, ?_, h2⟩, ?_⟩
  · rw [h1]; exact strKind_is P w k tk
  · rw [h1]; rfl
theorem tx_is {e : Int × Value} (g : TxE P w e) (k : Str) : (PySem.strKind P w).is k e.2 = true ↔ txO e = k := by
  obtain ⟨k0, tk, h1, _⟩ := g
  have q0 : (PySem.strKind P w).is k0 e.2 = true := by rw [h1]; exact strKind_is P w k0 tk
  have e0 : txO e = k0 := by unfold txO; rw [h1]
  rw [e0]
  exact ⟨fun q => (PySem.strKind P w).inj e.2 k0 k q0 q, fun q => q ▸ q0⟩
theorem tx_mem {l : List (Int × Value)} (g : ∀ e ∈ l, TxE P w e) (k : Str) : k ∈ l.map txO ↔ ∃ e ∈ l, (PySem.strKind P w).is k e.2 = true := by
  rw [List.mem_map]
  exact ⟨fun ⟨e, he, q⟩ => ⟨e, he, (tx_is (g e he) k).2 q⟩, fun ⟨e, he, q⟩ => ⟨e, he, (tx_is (g e he) k).1 q⟩⟩
end
section
variable {P : Program} {w : World} {A : Around} {E : Value → Shared → Prop} {s : Shared} {a : Addr} {ks : List Str}
theorem tx_tail {g : Bool → Sem Unit} (hg : ∀ (b : Bool) (s₁ : Shared) (Q' : Unit → Shared → Prop), Q' () s₁ → wpAny (model P w) A (g b) Q' E s₁) {o : Obj} {es : Array (Int × Value)} {ep : Nat} {t : SetTable} (ho : s.heap.get? a = some o) (hex : o.ExactSet) (hd : o.data = .set es ep t)
    {es1 : Array (Int × Value)} {t2 : SetTable} (g1 : ∀ e ∈ es1.toList, TxE P w e) (p1 : (es1.toList.map txO).Perm ks) (nd : ks.Nodup) (hb1 : es1.size < scanBound) (hf2 : t2.fits es1.size = true) (hr : Ris t2.place.toList) (hl : w.params.followText "set-order" = true ∨ t2.led = true) {dm : Bool} {R : Option Bool → Shared → Prop}
    (hR : ∀ h', Heap.SameBut a s.heap h' → TxS P w h' a ks → R (some true) { s with heap := h' }) :
    wpAny (model P w) A (do
        storeSet a es1 t2
        if (!dm && t2.tooFull) = true then do
            g (relayAll t2 es1 (SetTable.grown es1.size)).2.2
            storeSet a (relayAll t2 es1 (SetTable.grown es1.size)).1 (relayAll t2 es1 (SetTable.grown es1.size)).2.1
            pure (some true)
          else pure (some true)) R E s := by
  refine wpAny_bind (wpAny_storeSet_of ho hd ?_ (fits_of_scanBound hb1))
  have u1 := store_at (es' := es1) (t' := t2) ho hd
  have b1 := Heap.SameBut.update s.heap a (Obj.putSet es1 t2)
  split
  · have pm := relayAll_perm t2 es1 (SetTable.grown es1.size)
    have f3 := relayAll_fits t2 es1 (SetTable.grown es1.size)
    have r3 := relayAll_ris t2 es1 (SetTable.grown es1.size) 
    have l3 := relayAll_led t2 es1 (SetTable.grown es1.size)
    generalize relayAll t2 es1 (SetTable.grown es1.size) = Z at pm f3 r3 l3 ⊢
    obtain ⟨es2, t3, gv⟩ := Z
    dsimp only at pm f3 r3 l3 ⊢
    have b2 : es2.size < scanBound := by
      have q := pm.length_eq
      rw [Array.length_toList, Array.length_toList] at q
      rw [q]; exact hb1
    refine wpAny_bind (hg _ _ _ (wpAny_bind (wpAny_storeSet_of u1 rfl ?_ (fits_of_scanBound b2))))
    have u2 := store_at (es' := es2) (t' := t3) u1 rfl
    exact wpAny_pure (hR _ (b1.trans (Heap.SameBut.update _ a _)) ⟨_, es2, _, t3, u2, hex, rfl, fun e he => g1 e (pm.mem_iff.mp he), (pm.map txO).trans p1, nd, b2, f3, r3, hl.imp id fun z => l3.trans z⟩)
  · exact wpAny_pure (hR _ b1 ⟨_, es1, _, t2, u1, hex, rfl, g1, p1, nd, hb1, hf2, hr, hl⟩)
theorem tx_add {k : Str} {tk : Tok} {Q : Bool → Shared → Prop} (R : TxS P w s.heap a ks) (room : ks.length + 1 < scanBound)
    (hQ : ∀ h' b, Heap.SameBut a s.heap h' → TxS P w h' a (if k ∈ ks then ks else k :: ks) → Q b { s with heap := h' }) :
    wpAny (model P w) A (setAddHashed a (.str k tk) ((PySem.strKind P w).hash k)) Q E s := by
  have R0 := R
  obtain ⟨o, es, ep, t, ho, hex, hd, g, pm0, nd, hb, hf, hr, hl⟩ := R
  have hkey : (PySem.strKind P w).is k (.str k tk) = true := strKind_is P w k tk
  have hsc : (Value.str k tk).scannable = true := rfl
  have hel : ElemsOf (PySem.strKind P w) es.toList := tx_elems g
  have hmem : k ∈ ks ↔ ∃ e ∈ es.toList, (PySem.strKind P w).is k e.2 = true := by rw [← pm0.mem_iff]; exact tx_mem g k
  unfold setAddHashed setAddHashedIn
  refine wpAny_holding (wpAny_bind (wpAny_setState_of ho hd hf ?_))
  dsimp only
  rw [byScan_of hsc hb hel, if_pos rfl]
  unfold setAddByScan
  refine wpAny_bind (wpAny_bind (wpAny_rule (wpAny_bind (wpAny_setScan_of hkey ho hd hf hel ?_))))
  cases hfi : List.findIdx? (fun e => (PySem.strKind P w).is k e.2) es.toList with
  | some j =>
    dsimp only
    obtain ⟨hj, pj, _⟩ := List.findIdx?_eq_some_iff_getElem.mp hfi
    have hin : k ∈ ks := hmem.2 ⟨es.toList[j], List.getElem_mem hj, pj⟩
    have q := fun b => hQ s.heap b (Heap.SameBut.refl a s.heap)
    rw [if_pos hin] at q
    exact wpAny_pure (wpAny_pure (q _ R0))
  | none =>
    dsimp only
    have hout : ¬ k ∈ ks := fun z => by
      obtain ⟨e, he, q⟩ := hmem.1 z
      have c := List.findIdx?_eq_none_iff.mp hfi e he
      rw [q] at c; cases c
    have hgw : ∀ (b : Bool) {s₁ : Shared} {Q' : Unit → Shared → Prop}, Q' () s₁ → wpAny (model P w) A (match b with | true => rule "set.scan.the-table-gave-way" | false => pure ()) Q' E s₁ := fun b s₁ Q' q => by
      cases b
      · exact wpAny_pure q
      · exact wpAny_rule q
    have pm := layNew_perm t es ((PySem.strKind P w).hash k) (.str k tk)
    have f1 := layNew_fits t es ((PySem.strKind P w).hash k) (.str k tk)
    have r1 := layNew_ris t es ((PySem.strKind P w).hash k) (.str k tk) hr
    have l1 := layNew_led t es ((PySem.strKind P w).hash k) (.str k tk)
    generalize layNew t es ((PySem.strKind P w).hash k) (.str k tk) = Z at pm f1 r1 l1 ⊢
    obtain ⟨es1, t1, dm, gv⟩ := Z
    dsimp only at pm f1 r1 l1 ⊢
    rw [Array.toList_push] at pm
    have pc : es1.toList.Perm (((PySem.strKind P w).hash k, Value.str k tk) :: es.toList) := pm.trans (List.perm_append_singleton _ _)
    have pk : (es1.toList.map txO).Perm (k :: ks) := (pc.map txO).trans (pm0.cons k)
    have g1 : ∀ e ∈ es1.toList, TxE P w e := fun e he => (List.mem_cons.mp (pc.mem_iff.mp he)).elim (fun z => z ▸ ⟨k, tk, rfl, rfl⟩) (g e)
    have b1 : es1.size < scanBound := by
      have q := pk.length_eq
      rw [List.length_map, Array.length_toList, List.length_cons] at q
      rw [q]; exact room
    have led : w.params.followText "set-order" = true ∨ t1.led = true := hl.imp id fun z => l1.trans z
    have fin : ∀ h' b, Heap.SameBut a s.heap h' → TxS P w h' a (k :: ks) → Q b { s with heap := h' } := fun h' b sb r => hQ h' b sb (by rw [if_neg hout]; exact r)
    have nd1 := List.nodup_cons.mpr ⟨hout, nd⟩
    refine wpAny_bind (hgw _ ?_)
    split
    · refine wpAny_bind ?_
      rw [hashByValue_scannable 8 hsc]
      refine wpAny_pure (tx_tail ?_ ho hex hd g1 pk nd1 b1 ?_ ?_ ?_ ?_)
      · intro b s₁ Q' q; cases b <;> first | exact wpAny_pure q | exact wpAny_rule q
      · first | (split <;> first | exact f1 | exact SetTable.fits_plain_off f1) | exact f1
      · first | (split <;> exact r1) | exact r1
      · first | (split <;> exact led) | exact led
      · intro h' sb r; dsimp only; exact wpAny_pure (fin h' _ sb r)
    · refine wpAny_bind (wpAny_pure ?_)
      rw [if_pos rfl]
      refine tx_tail ?_ ho hex hd g1 pk nd1 b1 f1 r1 led ?_
      · intro b s₁ Q' q; cases b <;> first | exact wpAny_pure q | exact wpAny_rule q
      · intro h' sb r; dsimp only; exact wpAny_pure (fin h' _ sb r)
end
/-- what the first of xs put one by one leave -/
def putS : List Str → List Str → List Str
  | ks, [] => ks
  | ks, x :: r => putS (if x ∈ ks then ks else x :: ks) r
theorem putS_app : ∀ (xs ks : List Str) (x : Str), putS ks (xs ++ [x]) = if x ∈ putS ks xs then putS ks xs else x :: putS ks xs
  | [], ks, x => rfl
  | y :: r, ks, x => putS_app r _ x
theorem putS_len : ∀ (xs ks : List Str), (putS ks xs).length ≤ ks.length + xs.length
  | [], ks => Nat.le_refl _
  | x :: r, ks => by
    have := putS_len r (if x ∈ ks then ks else x :: ks)
    unfold putS
    refine Nat.le_trans this ?_
    split <;> simp <;> omega
theorem putS_mem (s : Str) : ∀ (xs ks : List Str), s ∈ putS ks xs ↔ s ∈ ks ∨ s ∈ xs
  | [], ks => by simp [putS]
  | x :: r, ks => by
    unfold putS
    rw [putS_mem s r]
    by_cases h : x ∈ ks
    · rw [if_pos h]; simp only [List.mem_cons]
      exact ⟨fun q => q.elim .inl fun q => .inr (.inr q), fun q => q.elim .inl fun q => q.elim (fun e => .inl (e ▸ h)) .inr⟩
    · rw [if_neg h]; simp only [List.mem_cons]
      exact ⟨fun q => q.elim (fun q => q.elim (fun e => .inr (.inl e)) .inl) fun q => .inr (.inr q), fun q => q.elim (fun q => .inl (.inr q)) fun q => q.elim (fun e => .inl (.inl e)) .inr⟩
theorem putS_nodup : ∀ (xs ks : List Str), ks.Nodup → (putS ks xs).Nodup
  | [], ks, h => h
  | x :: r, ks, h => by
    unfold putS
    refine putS_nodup r _ ?_
    split
    · exact h
    · rename_i q; exact List.nodup_cons.mpr ⟨q, h⟩
section
variable {P : Program} {w : World} {A : Around} {E : Value → Shared → Prop} {s : Shared}
theorem tx_loop {I : Addr} {fp wr : List Addr} {G : Array GenState → Array GenState → Prop} {n : Nat} {Pv : Nat → Value → Prop} {St : Nat → Shared → Prop} {R : Result → Shared → Prop}
    (W : WalksS P w A.in1 I fp wr G n Pv St) (S : Addr) (hSf : S ∉ fp) (xs : List Str) (hn : n = xs.length) (hb : xs.length + 1 < scanBound) (hval : ∀ i v, Pv i v → ∃ k t, xs[i]? = some k ∧ v = .str k t) :
    ∀ (k i : Nat) (s : Shared), n - i = k → i ≤ n → St i s → TxS P w s.heap S (putS [] (xs.take i)) →
      (∀ s', Moved (S :: wr) G s s' → TxS P w s'.heap S (putS [] xs) → R (.ok (.ret .none)) s') → codeAny (model P w) A (.builtin "set.update.loop" ⟨[.ref S, .ref I], []⟩) R s := by
  have hSw : S ∉ wr := fun h => hSf (W.sub _ h)
  have hsub : ∀ b ∈ wr, b ∈ S :: wr := fun b hb => List.mem_cons_of_mem _ hb
  intro k
  induction k with
  | zero =>
    intro i s hk' hi hst hS hR
    have hin : i = n := by omega
    subst hin
    refine codeAny_builtin F.entry_set_update_loop ?_
    rw [Around.under_plainId F.plain_set_update_loop _]
    refine wpAny_bind (m := pyNext (.ref I)) (W.done s _ _ hst fun s' hm => ?_)
    rw [List.take_of_length_le (by omega)] at hS
    exact wpAny_pure (hR s' (hm.mono hsub) (hS.move fun o e => hm.heap S o hSw e))
  | succ k ih =>
    intro i s hk' hi hst hS hR
    have hlt : i < n := by omega
    refine codeAny_builtin F.entry_set_update_loop ?_
    rw [Around.under_plainId F.plain_set_update_loop _]
    refine wpAny_bind (m := pyNext (.ref I)) (W.item i s _ _ hlt hst fun v s' hP hst' hm => ?_)
    obtain ⟨z, t, hz, rfl⟩ := hval i v hP
    have hS' : TxS P w s'.heap S (putS [] (xs.take i)) := hS.move fun o e => hm.heap S o hSw e
    refine wpAny_bind (m := holding [Value.str z t] (setAdd S (.str z t))) (wpAny_holding ?_)
    unfold setAdd
    refine wpAny_holding (wpAny_bind ((PySem.strKind P w).pyHash (k := z) (strKind_is _ _ _ _) ?_))
    have hroom : (putS [] (xs.take i)).length + 1 < scanBound := by
      have q := putS_len (xs.take i) []
      rw [List.length_take, List.length_nil] at q
      omega
    refine tx_add (s := { s' with toks := s'.toks + 1 }) hS' hroom fun h' b hsb hS2 => ?_
    rw [← putS_app] at hS2
    have hS3 : TxS P w h' S (putS [] (xs.take (i + 1))) := by
      rw [List.take_add_one, hz]; exact hS2
    refine wpAny_pure ⟨plainId_quiet F.plain_set_update_loop _, ih (i + 1) _ (by omega) hlt (W.frame _ s' _ _ hst' (Nat.le_succ _) fun b hb o e => ?_) hS3 fun s'' hm'' hS'' => ?_⟩
    · rw [hsb.2 b (fun h : b = S => hSf (h ▸ hb))]; exact e
    · refine hR s'' (Moved.trans W.gtrans ((hm.mono hsub).then_heap (Nat.le_succ _) fun b o hb e => ?_) hm'') hS''
      rw [hsb.2 b (fun h : b = S => hb (h ▸ List.mem_cons_self))]; exact e
abbrev freO (w : World) : Obj := { cls := .type "set", dict := none, data := .set #[] 0 (.fresh 0 0 (!w.params.followText "set-order")) }
theorem tx_fresh {h : Heap} {a : Addr} (ho : h.get? a = some { cls := .type "set", dict := none, data := .set #[] 0 (.fresh 0 0 (!w.params.followText "set-order")) }) : TxS P w h a [] :=
  ⟨_, #[], 0, _, ho, ⟨rfl, rfl, rfl⟩, rfl, (fun e he => by simp at he), List.Perm.refl _, List.nodup_nil, (by decide), (by rfl), List.Pairwise.nil, by
    show _ ∨ (!w.params.followText "set-order") = true
    cases w.params.followText "set-order"
    · exact .inr rfl
    · exact .inl rfl⟩
theorem tx_at {us : List Value} {xs : List Str} (h : StrsAre us xs) (i : Nat) (v : Value) (e : us[i]? = some v) : ∃ k t, xs[i]? = some k ∧ v = .str k t := by
  obtain ⟨t, q⟩ := _root_.SS.strs_at h i v e
  have hl := StrsAre.len_eq h
  have hi : i < xs.length := by rw [← hl]; exact (List.getElem?_eq_some_iff.mp e).1
  refine ⟨xs[i], t, List.getElem?_eq_getElem hi, ?_⟩
  rw [q, List.getD_eq_getElem?_getD, List.getElem?_eq_getElem hi]; rfl
set_option maxHeartbeats 3200000 in
theorem tx_of_list {l : Addr} {items : Array Value} {xs : List Str} {Q : Value → Shared → Prop} (hh : A.handled = none) (hl : s.heap.IsList l items) (hit : StrsAre items.toList xs) (hb : xs.length + 1 < scanBound)
    (h : ∀ (h' : Heap) (tk : Nat), TxS P w h' s.heap.objs.size (putS [] xs) → (∀ b o, s.heap.get? b = some o → h'.get? b = some o) → Q (.ref s.heap.objs.size) { s with heap := h', toks := tk }) :
    wpAny (model P w) A (call (.type "set") [.ref l]) Q E s := by
  have hsz : items.size = xs.length := by
    have q := StrsAre.len_eq hit
    rwa [Array.length_toList] at q
  obtain ⟨c, tl, hmro⟩ := F.called_set.mro
  have hmade := F.called_set.made
  have hsub := F.called_set.sub
  refine wpAny_call (codeAny_of_tree ?_)
  show wpAny _ _ (callAny (.type "set") _) _ _ _
  refine wpAny_pure ⟨Code.quiet_builtin _ (by decide +kernel), codeAny_builtin F.entry_type_call ?_⟩
  rw [Around.under_plain (weight_type_call_type "set" [.ref l] []) rfl]
  have h1 := F.called_set.notType
  have h2 := F.called_set.canCreate
  have hct := F.typeCall_set_1 (.ref l)
  repeat (any_goals (first | assumption | wp_step))
  generalize hO : ({ cls := .type "set", dict := none, data := .set #[] 0 (.fresh 0 0 (!w.params.followText "set-order")) } : Obj) = O
  have hOc : O.cls = .type "set" := by rw [← hO]
  refine codeAny_mono (code_set_led1 (.ref l) (E := E) (Q₁ := fun obj s₁ => obj = .ref s.heap.objs.size ∧ s₁ = { s with heap := s.heap.push O }) ⟨rfl, by rw [hO]⟩) fun r s₁ hr => ?_
  cases r with
  | error e => exact hr
  | ok fl =>
    cases fl with
    | ret obj =>
      obtain ⟨rfl, rfl⟩ := hr
      have hS : (s.heap.push O).get? s.heap.objs.size = some O := Heap.get?_push_size _ (by rw [← hO]; rfl)
      have hT : Shared.TypeIs { s with heap := s.heap.push O } (.ref s.heap.objs.size) "set" := ⟨_, hS, hOc⟩
      have hli := F.called_set.init.lookup
      have hbi := F.called_set.init.bind (.ref s.heap.objs.size)
      repeat (any_goals (first | assumption | wp_step))
      refine codeAny_mono (codeAny_call_builtin (R := wants (fun r s₂ => r = .none ∧ ∃ h' tk, s₂ = { s with heap := h', toks := tk } ∧ TxS P w h' s.heap.objs.size (putS [] xs) ∧ (∀ b o, s.heap.get? b = some o → h'.get? b = some o)) E) F.called_set.init.plain F.entry_set_init (check_set_init_1 hT ?_)) fun r₂ s₂ hr₂ => ?_
      · subst hO
        obtain ⟨ol, hol, hcl, nl, hdl⟩ := hl
        obtain ⟨ocls, odict, odata, oslots⟩ := ol
        simp only at hcl hdl
        subst hcl; subst hdl
        have hol' : (s.heap.push (freO w)).get? l = some { cls := .type "list", dict := odict, data := .seq items nl, slots := oslots } := Heap.get?_push_of_some _ hol
        have hsls := F.sub_list_set
        have hslf := F.sub_list_frozenset
        have hne : (Value.type "list" == Value.type "dict") = false := by decide
        have hl1 : (s.heap.push (freO w)).IsList l items := ⟨_, hol', rfl, nl, rfl⟩
        unfold Builtin.«set.__init__» noKeywords Builtin.Frozenset.updateFrom
        generalize hPI : pyIter = PI
        wp_walk
        subst hPI
        refine wpAny_pyIter_list hl1 ?_
        refine wpAny_bind (wpAny_runValue ?_)
        have hlS : l < s.heap.objs.size := Heap.lt_size hol
        have hh3 : A.in1.in1.in1.handled = none := by simp [hh]
        have hz : (s.heap.push (freO w)).objs.size = s.heap.objs.size + 1 := Heap.size_push ..
        have hneI : l ≠ (s.heap.push (freO w)).objs.size := by rw [hz]; exact Nat.ne_of_lt (Nat.lt_succ_of_lt hlS)
        have hSf : s.heap.objs.size ∉ [(s.heap.push (freO w)).objs.size, l] := by
          rw [hz]; simp only [List.mem_cons, List.not_mem_nil, or_false, not_or]; exact ⟨Nat.ne_of_lt (Nat.lt_succ_self _), Nat.ne_of_gt hlS⟩
        refine tx_loop ((Walks.list hh3 _ l hneI items).toS) s.heap.objs.size hSf xs hsz hb (fun i v hv => tx_at hit i v (by rw [Array.getElem?_toList]; exact hv)) (items.size - 0) 0 _ (by omega) (Nat.zero_le _)
          ⟨⟨_, Heap.get?_push_size _ rfl, rfl, rfl⟩, (hl1.push _)⟩ ?hS0 ?hR
        case hS0 =>
          exact tx_fresh (Heap.get?_push_of_some _ hS)
        case hR =>
          intro s' hm hS'
          obtain ⟨h', g2, d', tk', os'⟩ := s'
          have eg : g2 = s.gens := hm.gens
          have ed : d' = s.drawn := hm.drawn
          have eo : os' = s.os := hm.os
          subst eg ed eo
          show wpAny _ _ _ _ _ _
          refine wpAny_pure ?_
          show wpAny _ _ (ret Value.none) _ _ _
          refine wpAny_pure ⟨rfl, h', tk', rfl, hS', fun b o e => ?_⟩
          have hb0 : b < s.heap.objs.size := Heap.lt_size e
          refine hm.heap b o ?_ (Heap.get?_push_of_some _ (Heap.get?_push_of_some _ e))
          rw [hz]; simp only [List.mem_cons, List.not_mem_nil, or_false, not_or]; exact ⟨Nat.ne_of_lt hb0, Nat.ne_of_lt (Nat.lt_succ_of_lt hb0)⟩
      · cases r₂ with
        | error e => exact hr₂
        | ok fl₂ =>
          cases fl₂ with
          | ret r =>
            obtain ⟨rfl, h', tk, rfl, hS', hk'⟩ := hr₂
            repeat (any_goals (first | assumption | wp_step))
            exact h _ _ hS' hk'
          | _ => exact hr₂.elim
    | _ => exact hr.elim
end

/-! ### sorted of it -/
section
variable {P : Program} {w : World} {A : Around} {E : Value → Shared → Prop} {s : Shared} {a : Addr}
theorem tx_strs : ∀ (l : List (Int × Value)), (∀ e ∈ l, TxE P w e) → ∀ v ∈ l.map (·.2), ∃ x t, v = Value.str x t := fun l g v hv => by
  obtain ⟨e, he, rfl⟩ := List.mem_map.mp hv
  obtain ⟨k, tk, h1, _⟩ := g e he
  exact ⟨k, tk, h1⟩
theorem tx_sorted {ks : List Str} {Q : Value → Shared → Prop} (R : TxS P w s.heap a ks) (hh : A.handled = none) (h64 : ks.length < 64)
    (hQ : ∀ s' p (out : Array Value) (c : Nat) (ys : List Str), (∀ b o, s.heap.get? b = some o → s'.heap.get? b = some o) → s'.gens = s.gens → s'.os = s.os → s.heap.objs.size ≤ p →
      s'.heap.get? p = some (seqObj "list" out c) → StrsAre out.toList ys → ys.Perm ks → sortedS ys = true → Q (.ref p) s') :
    wpAny (model P w) A (call (.builtin "sorted") [.ref a]) Q E s := by
  obtain ⟨o, es, ep, t, ho, hex, hd, g, pm0, nd, hb, hf, hr, hl⟩ := R
  refine Calls.call_function_entry kind_sorted plain_sorted entry_sorted (args_sorted1 _) ?_
  unfold Builtin.«sorted»
  refine wpAny_bind (m := checkCount "sorted" 1 1 _) (wpAny_pure (wpAny_bind (collect_set (A := A.in1) hh ⟨o, ho, hex.1, hd⟩ hf hb hr hl fun s1 vs k1 hz g1 o1 pm => ?_)))
  have hS : StrsAre vs (vs.map strOf) := strsAre_map vs fun v hv => tx_strs _ g v (pm.mem_iff.mp hv)
  have e1 : es.toList.map txO = (es.toList.map (·.2)).map strOf := by
    rw [List.map_map]
    apply List.map_congr_left
    intro e he
    obtain ⟨k, tk, h1, _⟩ := g e he
    simp only [txO, Function.comp, h1, strOf]
  have pk : (vs.map strOf).Perm ks := (pm.map strOf).trans (e1 ▸ pm0)
  have hvl : vs.length = ks.length := by rw [← pk.length_eq, List.length_map]
  refine wpAny_bind (wpAny_newList ?_ (by rw [hvl, sizeLine_eq]; omega))
  have hoL : (s1.heap.push (seqObj "list" vs.toArray 0)).get? s1.heap.objs.size = some (seqObj "list" vs.toArray 0) := Heap.get?_push_size _ rfl
  refine wpAny_bind (wpAny_holding (wpAny_call_entry slot_list_sort ⟨_, hoL, rfl⟩ entry_list_sort (list_sort_treeK strKind_oneLt hoL hS.keysOf (fun v₁ v₂ rest e => keyKind_strs (by rw [← e]; exact hS)) (by rw [hvl]; exact h64) fun st' a1 a2 => ⟨_, rfl, ?_⟩) (args_list_sort _)))
  obtain ⟨ys, y1, y2, y3⟩ := sorted_out_str hS a1 a2
  obtain ⟨c, hc⟩ := sortedHeap_at (vs := vs) (out := (arrOf st').map (·.2)) hoL
  refine wpAny_pure ⟨_, rfl, hQ _ s1.heap.objs.size _ c ys (fun b u e => ?_) g1 o1 hz hc y1 (y2.trans pk) y3⟩
  have q := k1 b u e
  have hlt := Heap.lt_size q
  show (sortedHeap (s1.heap.push (seqObj "list" vs.toArray 0)) s1.heap.objs.size vs _).get? b = some u
  rw [sortedHeap_old (Nat.ne_of_lt hlt) (by rw [size_push']; exact Nat.lt_succ_of_lt hlt)]
  exact Heap.get?_push_of_some _ q
end
/-! ### over the layer -/
def TxO (P : Program) (w : World) (a : Addr) (ks : List Str) : HO := .ext fun h => TxS P w h a ks
section
variable {X : Cx} {EX : XK} {C : Nat → Addr}
theorem txO_new {P : Program} {w : World} {H : Hp} {h : Heap} {a : Addr} {ks : List Str} (R : TxS P w h a ks) : ObjOk P w H h a (TxO P w a ks) := by
  have ⟨o, _, _, _, ho, _⟩ := R
  exact ⟨R, ⟨o, ho⟩, fun h1 h2 p k => TxS.move p k⟩
theorem txO_get {pins : List (Addr × Obj)} {σ : L2.St} {H : Hp} {s : Shared} {a : Addr} {ks : List Str} (I : Inv X pins σ H s) (ha : H a = some (TxO X.prog X.w a ks)) : TxS X.prog X.w s.heap a ks := (I.hok a _ ha).1
def rSetT (K : PySem.W.Frag) (P : Program) (w : World) : List V → Hp → VK → Prop := fun vs H Q => ∃ (l : Addr) (xs : List Str), vs = [.ref l] ∧ SqL K H l (xs.map V.str) ∧ xs.length < 4000 ∧ ∀ p, H p = none → Q (.ref p) (upd H p (TxO P w p (putS [] xs)))
theorem cr_setT (hc : X.calm = true) : CallR X (.type "set") (rSetT X.K X.prog X.w) := by
  intro pins s σ H vs us Q I r h
  obtain ⟨l, xs, rfl, hs, hlen, q⟩ := h
  obtain ⟨its, rv, hl, _⟩ := I.list hs
  rw [Vals.ref1 r]
  refine tx_of_list (I.ok.hd hc) hl.isList rv.strs (by unfold scanBound; omega) fun h' tk new k => ?_
  exact ⟨.ref _, upd H s.heap.objs.size (TxO X.prog X.w s.heap.objs.size (putS [] xs)), I.laid (t' := tk) (fun b u e => k b u e) (Nat.le_refl _) (txO_new new), rfl, q _ (I.hok.fresh (Nat.le_refl _))⟩
def rSortT (P : Program) (w : World) : List V → Hp → VK → Prop := fun vs H Q => ∃ (a : Addr) (ks : List Str), vs = [V.ref a] ∧ H a = some (TxO P w a ks) ∧ ks.length < 64 ∧
  ∀ (ys : List Str) (p : Addr), ys.Perm ks → sortedS ys = true → H p = none → Q (.ref p) (upd H p (.lst (ys.map V.str)))
theorem cr_sortT (hc : X.calm = true) : CallR X (.builtin "sorted") (rSortT X.prog X.w) := by
  intro pins s σ H vs us Q I r h
  obtain ⟨a, ks, rfl, ha, h64, q⟩ := h
  have R := txO_get I ha
  rw [Vals.ref1 r]
  refine tx_sorted R (I.ok.hd hc) h64 fun s' p out c ys k g o hp hg hi pm hs => ?_
  have hlen : (ys.map V.str).length ≤ sizeLine := by rw [List.length_map, pm.length_eq, sizeLine_eq]; omega
  have hn : H p = none := I.hok.fresh hp
  have J : Inv X pins σ (upd H p (.lst (ys.map V.str))) { s with heap := s'.heap, gens := s'.gens, drawn := s'.drawn, toks := s'.toks } :=
    I.call (ch := []) (Un.laid k hp hn) (I.hok.laid k hp ⟨hlen, out.toList, c, vals_of_strs hi, hg⟩) (by rw [g]; exact I.bare) (fun _ z => nomatch z)
  have e : s' = { s with heap := s'.heap, gens := s'.gens, drawn := s'.drawn, toks := s'.toks } := by
    cases s'; cases s; cases o; rfl
  rw [e]
  exact ⟨.ref p, _, J, rfl, q ys p pm hs hn⟩
end
end Pf

set_option Elab.async false
set_option linter.all false
set_option maxRecDepth 100000
set_option maxHeartbeats 4000000
namespace Pf
open PySem L2 PyProof.Rows
section
variable {X : Cx} {EX : XK} {C : Nat → Addr} {a : Expr} {f : Ev → R D} {pos : Pos}
theorem rd_strs {H : Hp} {ts : List T} {xs : List Str} {v : V} (h : asStrs ts = some xs) (r : RD X.K H (.lst ts) v) : ∃ l, v = .ref l ∧ H l = some (.lst (xs.map V.str)) := by
  obtain ⟨l, ws, h1, h2, h3⟩ := r
  have e : ts = xs.map T.str := by
    clear h2 h3
    induction ts generalizing xs with
    | nil => simp [asStrs] at h; subst h; rfl
    | cons t r ih =>
      cases t with
      | str s =>
        simp only [asStrs, Option.map_eq_some_iff] at h
        obtain ⟨ys, h4, rfl⟩ := h
        rw [ih h4]; rfl
      | _ => simp [asStrs] at h
  subst e
  rw [RTs.strs h3] at h2
  exact ⟨l, h1, h2⟩
theorem once_perm (xs : List Str) : (putS [] xs).Perm (onceS xs) := by
  have hm : ∀ (s : Str) (l : List Str), s ∈ onceS l ↔ s ∈ l := by
    intro s l
    induction l with
    | nil => simp [onceS]
    | cons x r ih =>
      unfold onceS
      split
      · rename_i h
        rw [ih, List.mem_cons]
        exact ⟨.inr, fun q => q.elim (fun e => e ▸ h) id⟩
      · rw [List.mem_cons, List.mem_cons, ih]
  have hn : ∀ l : List Str, (onceS l).Nodup := by
    intro l
    induction l with
    | nil => simp [onceS]
    | cons x r ih =>
      unfold onceS
      split
      · exact ih
      · rename_i h
        exact List.nodup_cons.mpr ⟨fun q => h ((hm x r).mp q), ih⟩
  refine (List.perm_ext_iff_of_nodup (putS_nodup xs [] List.nodup_nil) (hn xs)).mpr fun s => ?_
  rw [putS_mem, hm]; simp
theorem sn_sset (hc : X.calm = true) (ha : SE X EX C a f) (hm : X.mg "sorted" = none) (hm2 : X.mg "set" = none) {p p2 q : Pos} (hg : Gl X "sorted" := by rfl) (hg2 : Gl X "set" := by rfl)
    (he : starEach (.Call (.Name "set" p2) [a] [] q :: []) X.env = (false, eval (.Call (.Name "set" p2) [a] [] q) X.env) :: starEach [] X.env := by rfl) (hpl : (backTo pos (starEach [] X.env)).any (·.1) = false := by rfl)
    (he2 : starEach (a :: []) X.env = (false, eval a X.env) :: starEach [] X.env := by rfl) (hpl2 : (backTo q (starEach [] X.env)).any (·.1) = false := by rfl) :
    SN X EX C (.Call (.Name "sorted" p) [.Call (.Name "set" p2) [a] [] q] [] pos) (u1 ssetD f) := by
  obtain ⟨te, pa, qa⟩ := ha
  have h1 := pe_callTy (p := p2) (cr_setT hc) hg2 hm2 (by decide +kernel) (pa_cons pa pa_nil he2) (by decide) (by decide) he2 hpl2
  have h2 := pe_callB (p := p) (cr_sortT hc) hg hm (by decide +kernel) (pa_cons h1 pa_nil he) (by decide) (by decide) he hpl
  refine ⟨_, h2, fun F σ H ρ Q er w => ?_⟩
  refine qa F σ H ρ _ er (w.bind.imp fun d _ k v H1 s1 r1 => ?_)
  unfold ssetD at k
  split at k
  · split at k
    · rename_i ts xs hx
      split at k
      · rename_i hl
        obtain ⟨l, rfl, hl2⟩ := rd_strs hx r1
        refine ⟨l, xs, rfl, SqL.of hl2, hl.1, fun p hp => ?_⟩
        have pm := once_perm xs
        refine ⟨p, putS [] xs, rfl, by unfold upd; simp, by rw [pm.length_eq]; exact hl.2, fun ys p2 y1 y2 hp2 => ?_⟩
        rw [srtS_of (y1.trans pm) y2]
        have s2 := s1.trans (same_new hp (TxO X.prog X.w p (putS [] xs)))
        exact k _ _ (s2.trans (same_new hp2 _)) ((new_lst hp2 (RTs.ofStrs _)).less s2)
      · exact k.elim
    · exact k.elim
  · exact k.elim
end
end Pf

set_option Elab.async false
set_option linter.all false
set_option maxRecDepth 100000
set_option maxHeartbeats 4000000
namespace Pf
open PySem L2
/-! ## exceptions -/
/-- an own class of exceptions without an __init__ stands at the module's name x -/
structure ExcAt (K : PySem.W.Frag) (mg : Str → Option Value) (C : Nat → Addr) (x : Str) (c : Nat) : Prop where
  q : PySem.W.excIn K (C c) [.type "ValueError", .type "Exception", .type "BaseException", .type "object"] "ValueError.__new__" = true
  g : mg x = some (.ref (C c))
  k : PySem.W.keepIn K (.ref (C c)) = true
  s : PySem.W.subIn K (.ref (C c)) (.type "BaseException") = some true
  t : PySem.W.typeIn K (.ref (C c)) = some (.type "type")
section
variable {X : Cx} {EX : XK} {C : Nat → Addr} {pos : Pos}
theorem ss_raise {x m : Str} {c : Nat} {j : Nat} {p p2 p3 : Pos} (e : ExcAt X.K X.mg C x c) (hc : X.calm = true) (tk : L2N.Takes X (fun cls d _ H => EX cls d H)) (hg : Gl X x := by rfl) (hdb : (x == ("__debug__" : Str)) = false := by decide) :
    SS X EX C (.Raise (some (.Call (.Name x p) [.Constant (.str m) j p2] [] p3)) none pos) (raiseO c) := by
  refine ⟨_, L2N.ps_raise hc tk (L2N.pmk_own PySem.F.excBase_ValueError e.q e.g e.k (raises_own e.s e.t) hg hdb), fun F σ H ρ D er w => ?_⟩
  exact w H er.same
/-! ### isinstance of the exception that is handled -/
theorem cr_isE {a D : Addr} {oe : Obj} (hp : (a, oe) ∈ X.pn) (c0 : ExcC X.K D) (hz : Zc (.ref D) none oe) (hf : ∃ vs, oe.data = .fields vs) : CallR X (.builtin "isinstance") (rIsE X.K D a) := by
  intro pins s σ H xs us Q I r h
  obtain ⟨c, cv, b, rfl, hcv, e, q⟩ := h
  obtain ⟨u1, u2, rfl, rx, rt⟩ : ∃ u1 u2, us = [u1, u2] ∧ RelV (.ref a) u1 ∧ RelV c u2 := by
    cases r with
    | cons rx rr =>
      cases rr with
      | cons rt rr => cases rr; exact ⟨_, _, rfl, rx, rt⟩
  cases rx
  have ec := hcv _ rt
  subst ec
  obtain ⟨hget, _⟩ := I.pin (a, oe) (List.mem_append.mpr (.inl hp))
  have J : PySem.W.InstAt s.heap a oe D none := by
    obtain ⟨vs, hv⟩ := hf
    obtain ⟨oc, od, oda, osl⟩ := oe
    obtain ⟨h1, h2⟩ := hz
    dsimp only at h1 h2 hv
    subst h1 h2 hv
    exact ⟨hget, rfl, rfl, trivial⟩
  exact PySem.W.kia_one (PySem.W.handS_kitx_exc c0.hg c0.hk c0.hs c0.hd c0.ha c0.hn c0.ht c0.hm) I.kIn J e (fun z => nomatch z) fun tk => ⟨.bl b, H, I.kept (t' := tk) fun _ _ z => z, rfl, q⟩
def exR (i : Nat) (a : Addr) (b : Bool) (ρ : Ev) : R D := match ρ[i]? with
  | some (.raw (.ref a')) => if a' = a then .ok (.t (.bl b)) else .stuck
  | _ => .stuck
theorem sn_isE {i : Nat} {a D : Addr} {oe : Obj} {x y : Str} {p1 p0 p2 : Pos} {v : V} {cv : Value} {b : Bool} (hp : (a, oe) ∈ X.pn) (c0 : ExcC X.K D) (hz : Zc (.ref D) none oe) (hf : ∃ vs, oe.data = .fields vs)
    (pv : PE X (.Name y p0) (tVar i)) (pc : PE X (.Name x p2) (tC v)) (hcv : ∀ u, RelV v u → u = cv) (hk : PySem.W.kitOne X.K (.ref D) cv = some b) (hm : X.mg "isinstance" = none) (hg : Gl X "isinstance" := by rfl) (hb : bootBuiltins "isinstance" = some (.builtin "isinstance") := by decide +kernel)
    (h1 : starEach [.Name y p0, .Name x p2] X.env = (false, eval (.Name y p0) X.env) :: starEach [.Name x p2] X.env := by rfl) (h2 : starEach [.Name x p2] X.env = (false, eval (.Name x p2) X.env) :: starEach [] X.env := by rfl)
    (hpl : (backTo pos (starEach [.Name x p2] X.env)).any (·.1) = false := by rfl) :
    SN X EX C (.Call (.Name "isinstance" p1) [.Name y p0, .Name x p2] [] pos) (exR i a b) := by
  refine ⟨_, pe_callB (cr_isE hp c0 hz hf) hg hm hb (pa_cons pv (pa_cons pc pa_nil h2) h1) (by decide) (by decide) h1 hpl, fun F σ H ρ Q er w => ?_⟩
  unfold exR at w
  split at w
  · rename_i a' h
    split at w
    · rename_i e
      subst e
      exact ⟨_, er.raw i _ h, _, _, _, rfl, hcv, hk, w (.bl b) H (Same.refl H) rn_bl⟩
    · exact w.elim
  · exact w.elim
/-! ### join -/
theorem sn_join {z : Str} {j : Nat} {p : Pos} {e : Expr} {g : Ev → R D} {apos : Pos} (he : SE X EX C e g) (hs : starEach [e] X.env = [(false, eval e X.env)] := by rfl) (hbase : attributeBase (.Constant (.str z) j p) "join" X.env (eval (.Constant (.str z) j p) X.env) = eval (.Constant (.str z) j p) X.env := by rfl) (hline : (apos.endLine == pos.line) = true := by rfl) :
    SN X EX C (.Call (.Attribute (.Constant (.str z) j p) "join" apos) [e] [] pos) (b2 joinD (kS z) g) := by
  obtain ⟨te, pe, qe⟩ := he
  refine ⟨_, pe_join pe_str pe hs hbase hline, fun F σ H ρ Q er w => ?_⟩
  refine ⟨⟨z, rfl⟩, ?_⟩
  have w' : WN X.K EX C H (g ρ >>= fun y => joinD (.t (.str z)) y) Q := w
  refine qe F σ H ρ _ er (w'.bind.imp fun d _ k v H1 s1 r1 => ?_)
  cases d with
  | lst ts =>
    simp only [joinD] at k
    split at k
    · rename_i ys hy
      split at k
      · rename_i hl
        obtain ⟨l, vs, rfl, h2, h3⟩ := r1
        rw [asStrs_eq hy] at h3
        rw [h3.strs] at h2
        exact ⟨z, l, ys, rfl, rfl, .inl (SqL.of h2), hl, k _ _ s1 rn_str⟩
      · exact k.elim
    · exact k.elim
  | _ => exact k.elim
end
/-! ### a def that is called with the handled exception -/
def wordOf (c : Nat) : Str := if c = 0 then "no value" else if c = 1 then "not plain" else "no note"
/-- what the def of that word promises, called where the exception p is handled -/
def RunW (P : Program) (w : World) (K : PySem.W.Frag) (mg : Str → Option Value) (base : Heap) (C : Nat → Addr) (k : Nat) (f : Addr) (fd : FuncData) (ps : List Str) : Prop :=
  ∀ (A : Around) (outer : List Env) (s : Shared) (H : Hp) (args : Args) (us : List Value) (Q : VK) (E : XK) (p : Addr × Obj) (c : Nat), c < 3 → L2H.RoomH k A → L2H.Hot1 A p → L2H.PinOk outer H s p → Zc (.ref (C c)) none p.2 → Env0 P w K mg base A outer s H → BindsTo s fd args (ps.zip us) → us = [.ref p.1] →
    (∀ H', Same H H' → Q (.str (wordOf c)) H') → codeAny (model P w) A (.call (.ref f) args) (L2.CR (L2N.CX P w) outer P w H s Q E) s
theorem runW_of {P : Program} {w : World} {K : PySem.W.Frag} {mg : Str → Option Value} {base : Heap} {C : Nat → Addr} {k : Nat} {f : Addr} {name : Str} {params : Arguments} {body : List Stmt} {scope : Scope} {dV kV doc pm cdv ct oc : Value} {an od : Option Addr} {osl : Array (Option Value)} {N : List Str} {y : Str}
    (lk : K.lookup f = some ⟨oc, od, .func (PySem.W.fnOf name name params body scope dV kV doc pm an cdv ct), osl⟩) (hcd : PySem.W.codeIn K cdv name = true) (S : FnScope N [y] scope)
    (hbody : ∀ (A : Around) (outer : List Env) (s : Shared) (H : Hp) (E : XK) (p : Addr × Obj) (c : Nat), c < 3 → L2H.Hot1 A p → Zc (.ref (C c)) none p.2 → L2H.RoomH k (A.deeper (PyProof.Rows.envOfC name scope s.heap.objs.size f cdv)) →
      ∃ g, SB (L2H.cxH (L2N.CX P w) P w K mg base N name scope f cdv A outer s H E p) E0 C body g ∧ ∃ o, g (.raw (.ref p.1) :: un (N.length - 1)) = .ok o ∧ o = .rt (.t (.str (wordOf c)))) :
    RunW P w K mg base C (k + 1) f (PySem.W.fnOf name name params body scope dV kV doc pm an cdv ct) [y] := by
  intro A outer s H args us Q E p c hc hr hot hpin hz e0 hb hus hq
  subst hus
  have r : Vals [V.ref p.1] [Value.ref p.1] := .cons rfl .nil
  have KX : K.In s.heap := e0.mod.kin.keeps fun b o e => (e0.bs b o e).1
  have lim : s.heap.NoLimit := e0.mod.nolimit.keeps fun b o e => (e0.bs b o e).1
  have hkind : ∀ z ∈ [y].zip [Value.ref p.1], scope.names.lookup z.1 = some .local ∨ (scope.names.lookup z.1 = some .cell ∧ ((cellsFrom (s.heap.objs.size + 1) scope.names []).lookup z.1).isSome = true) := fun ⟨n, v⟩ hz => by
    rcases S.par n (List.of_mem_zip hz).1 with q | q
    · exact .inl q
    · exact .inr ⟨q, PySem.W.cellsFrom_some _ _ _ (.inl q)⟩
  refine codeAny_call_function hr.depth (KX _ _ lk) rfl S.co S.gen rfl (PySem.W.codeRec_of KX hcd) (hb _ _ _ _ ?_)
  refine wpAny_newFunctionEnv_cells S.kind hkind fun env he s1 x => ?_
  subst he
  refine ⟨lim.keeps x.toInCall.keep, codeAny_func ?_⟩
  obtain ⟨g, ⟨t, ht, hqs⟩, o, ho, rfl⟩ := hbody A outer s H E p c hc hot hz (hr.deeper _)
  have I : Inv (L2H.cxH (L2N.CX P w) P w K mg base N name scope f cdv A outer s H E p) [] (L2.start N [V.ref p.1]) H s1 := L2H.inv_startH S hpin e0 rfl r x
  have er : ER K H (L2.start N [V.ref p.1]) H (.raw (.ref p.1) :: un (N.length - 1)) := by
    have hun : ∀ (i : Nat) s, (un (N.length - 1))[i]? = some s → s = .un := fun i s h => List.eq_of_mem_replicate (List.mem_of_getElem? h)
    have hN : 1 ≤ N.length := by have := congrArg List.length S.pre; rw [List.length_take] at this; simp at this; omega
    refine ⟨Same.refl H, fun i x o h => ?_, fun i j x y v u b h1 => ?_, ?_, fun i v h => ?_⟩
    · cases i with
      | zero => cases h
      | succ i => have := hun i _ h; cases this
    · cases i with
      | zero => cases h1
      | succ i => have := hun i _ h1; cases this
    · unfold L2.start un; simp <;> omega
    · cases i with
      | zero => cases h; rfl
      | succ i => have := hun i _ h; cases this
  have hrt : WS K E0 C H H { nx := fun _ H' => Q .non H', rt := Q } (g (.raw (.ref p.1) :: un (N.length - 1))) := by
    rw [ho]
    intro v H' s' r'
    have e : v = .str (wordOf c) := by
      have z := r'
      simpa only [RN, RT] using z
    rw [e]; exact hq H' s'
  have hw := hqs H (L2.start N [V.ref p.1]) H _ _ er hrt
  refine wpAny_mono (ht.run [] s1 (L2.start N [V.ref p.1]) H _ I hw) (fun fl s' hs => ?_) fun e s' hs => hs
  cases fl with
  | ret u =>
    obtain ⟨v, σ', H', J, rv, q⟩ := hs
    exact ⟨v, H', J.os, J.bare, J.base, J.hok, rv, q⟩
  | next =>
    obtain ⟨σ', H', J, q⟩ := hs
    exact ⟨V.non, H', J.os, J.bare, J.base, J.hok, rfl, q⟩
  | brk =>
    obtain ⟨_, _, _, q⟩ := hs
    exact False.elim q
  | cont =>
    obtain ⟨_, _, _, q⟩ := hs
    exact False.elim q

section
variable {X : Cx} {EX : XK} {C : Nat → Addr} {pos : Pos}
theorem pe_callW {i k c : Nat} {f : Addr} {fd : FuncData} {x e y : Str} {p q : Pos} {pr : Addr × Obj} (F : RunW X.prog X.w X.K X.mg X.base C k f fd [y]) (hc : c < 3) (hr : L2H.RoomH k X.A) (hot : L2H.Hot1 X.A pr) (hp : pr ∈ X.pn) (hz : Zc (.ref (C c)) none pr.2) (hg : Gl X x) (hm : X.mg x = some (.ref f)) (hk : PySem.W.keepIn X.K (.ref f) = true)
    (hb : Binds X.K fd [y] []) (pv : PE X (.Name e q) (tVar i)) (hdb : (x == ("__debug__" : Str)) = false := by decide) (he : starEach [.Name e q] X.env = (false, eval (.Name e q) X.env) :: starEach [] X.env := by rfl) (hpl : (backTo pos (starEach [] X.env)).any (·.1) = false := by rfl) :
    PE X (.Call (.Name x p) [.Name e q] [] pos) (fun σ H Q => σ[i]? = some (some (.ref pr.1)) ∧ ∀ H', Same H H' → Q (.str (wordOf c)) H') := by
  refine ⟨fun pins s σ H Q I ⟨h1, h2⟩ => ?_⟩
  refine wpAny_Call_Name_kw (ld_glob I hg hm ?_ hdb)
  have ha : PA X [.Name e q] (tCons (tVar i) tNil) := pa_cons pv pa_nil he
  refine PySem.W.callWith_K (h₀ := X.base) I.ok.mod.kin hk (thn (ha.run pos pins s σ H (fun vs H1 => vs = [V.ref pr.1] ∧ H = H1) I ⟨_, h1, rfl, rfl⟩) fun us s1 ⟨vs, H1, I1, r, ev, eH⟩ => ⟨I1.kIn, ?_⟩) he hpl
  subst ev
  rw [← eH] at I1
  have hu : us = [Value.ref pr.1] := by
    cases r with
    | cons ru rn => cases rn; cases ru; rfl
  subst hu
  have b := hb s1 [Value.ref pr.1] I1.kIn rfl
  rw [List.append_nil] at b
  have P1 := I1.pin pr (List.mem_append_left _ hp)
  have hpin : L2H.PinOk X.stack H s1 pr := ⟨P1.1, P1.2.1, fun hm => (List.mem_cons.mp (I1.stkSub pr.1 hm)).elim P1.2.2.1 P1.2.2.2.1, P1.2.2.2.2⟩
  refine wpAny_call (codeAny_mono (F X.A X.stack s1 H ⟨[Value.ref pr.1], []⟩ [Value.ref pr.1] Q E0 pr c hc hr hot hpin hz I1.env0 b rfl h2) fun r s' hq => ?_)
  cases r with
  | error e => exact passL pins σ H s1 e s' I1 hq
  | ok fl =>
    cases fl with
    | ret u => exact I1.after hq
    | next => exact False.elim hq
    | brk => exact False.elim hq
    | cont => exact False.elim hq
/-- the def of the word stands at the module's name x -/
def CalW (P : Program) (w : World) (K : PySem.W.Frag) (mg : Str → Option Value) (base : Heap) (C : Nat → Addr) (x : Str) (k : Nat) : Prop :=
  ∃ fa fd y, RunW P w K mg base C k fa fd [y] ∧ mg x = some (.ref fa) ∧ PySem.W.keepIn K (.ref fa) = true ∧ Binds K fd [y] []
/-- the exceptions that the suite takes -/
def ExmAt (K : PySem.W.Frag) (mg : Str → Option Value) (C : Nat → Addr) (x : Str) : Prop := ∃ a, mg x = some (.ref a) ∧ ∀ c, c < 3 → PySem.W.exmOne K (.ref (C c)) (.ref a) = some true
theorem takes0N {X : Cx} : L2N.Takes X (fun _ _ _ _ => False) := fun _ _ x => by
  obtain ⟨_, _, _, _, _, _, _, _, _, _, _, _, _, _, _, _, z⟩ := x
  exact z.elim
/-- what the suite 'return word(e)' gives -/
def tsW (C : Nat → Addr) (i : Nat) : Addr → Value → Option Addr → TS := fun a cls d D σ H => (∃ c, c < 3 ∧ cls = .ref (C c) ∧ d = none ∧ ∀ H', Same H H' → D.rt (.str (wordOf c)) H') ∧ σ[i]? = some (some (.ref a))
theorem suiteW {i k : Nat} {x e : Str} {p q p2 : Pos} {a : Addr} {oe : Obj} {cls : Value} {d : Option Addr} {pn : List (Addr × Obj)} (c : CalW X.prog X.w X.K X.mg X.base C x k) (hr : Room k X.A) (hz : L2N.Zn cls d oe) (hf : ∃ vs, oe.data = .fields vs) (hg : Gl X x)
    (pv : PE (X.suite a ((a, oe) :: pn)) (.Name e q) (tVar i)) (hdb : (x == ("__debug__" : Str)) = false) (he : starEach [.Name e q] X.env = (false, eval (.Name e q) X.env) :: starEach [] X.env) (hpl : (backTo p2 (starEach [] X.env)).any (·.1) = false) :
    PSs (X.suite a ((a, oe) :: pn)) [.Return (some (.Call (.Name x p) [.Name e q] [] p2)) pos] (tsW C i a cls d) := by
  obtain ⟨fa, fd, y, F, hm, hk, hb⟩ := c
  refine ⟨fun pins s σ H D I h => ?_⟩
  obtain ⟨⟨c, hc, rfl, rfl, hq⟩, hs⟩ := h
  obtain ⟨vs, hv⟩ := hf
  have hot : L2H.Hot1 (X.suite a ((a, oe) :: pn)).A (a, oe) := ⟨rfl, vs, hv, hz.2.2 vs hv⟩
  have hr' : L2H.RoomH k (X.suite a ((a, oe) :: pn)).A := L2H.roomH_of hr |> fun r => ⟨r.dp, r.un⟩
  have P1 : PE (X.suite a ((a, oe) :: pn)) (.Call (.Name x p) [.Name e q] [] p2) _ := pe_callW (pr := (a, oe)) (c := c) F hc hr' hot List.mem_cons_self hz.zc hg hm hk hb pv hdb he hpl
  exact (pss_one (ps_ret P1)).run pins s σ H D I ⟨hs, hq⟩
end

/-! ### try: f(..) / return f(..), except SomeError as e: return word(e) -/
@[simp] def tryO (i : Nat) (gr : List D → R D) (h : Ev → R (List D)) (ρ : Ev) : R Out := h ρ >>= fun ds => match gr ds with
  | .ok _ => .ok (.nx ρ)
  | .raise c => if c < 3 ∧ i < ρ.length then .ok (.rt (.t (.str (wordOf c)))) else .stuck
  | .stuck => .stuck
@[simp] def tryRO (i : Nat) (gr : List D → R D) (h : Ev → R (List D)) (ρ : Ev) : R Out := h ρ >>= fun ds => match gr ds with
  | .ok d => .ok (.rt d)
  | .raise c => if c < 3 ∧ i < ρ.length then .ok (.rt (.t (.str (wordOf c)))) else .stuck
  | .stuck => .stuck
/-- arguments that are names, in a try's body -/
def SAt (X : Cx) (es : List Expr) (h : Ev → R (List D)) : Prop :=
  ∃ ta, (∀ pn xe, PA (X.tr pn xe) es ta) ∧ (∀ F σ H ρ ds (Q : List V → Hp → Prop), ER X.K F σ H ρ → h ρ = .ok ds → (∀ vs H', Same H H' → RDs X.K H' ds vs → Q vs H') → ta σ H Q) ∧ (∀ ρ ds, h ρ = .ok ds → ds.length = es.length) ∧ ∀ ρ c, h ρ ≠ .raise c
section
variable {X : Cx} {EX : XK} {C : Nat → Addr} {pos : Pos}
theorem sat_nil : SAt X [] nA := ⟨tNil, fun _ _ => pa_nil, fun F σ H ρ ds Q er e k => by cases e; exact k [] H (Same.refl H) rfl, fun ρ ds e => by cases e; rfl, fun ρ c e => by cases e⟩
theorem sat_cons {i : Nat} {y : Str} {q : Pos} {es : List Expr} {h : Ev → R (List D)} (pv : ∀ pn xe, PE (X.tr pn xe) (.Name y q) (tVar i)) (ha : SAt X es h) (hs : starEach (.Name y q :: es) X.env = (false, eval (.Name y q) X.env) :: starEach es X.env := by rfl) : SAt X (.Name y q :: es) (cA (rdE i) h) := by
  obtain ⟨ta, pa, qa, la, na⟩ := ha
  have hrd : ∀ ρ, (∃ x, rdE i ρ = .ok x ∧ ∃ o, ρ[i]? = some (.d x o)) ∨ rdE i ρ = .stuck := fun ρ => by
    unfold rdE
    split
    · rename_i x o h; exact .inl ⟨x, rfl, o, h⟩
    · exact .inr rfl
  refine ⟨tCons (tVar i) ta, fun pn xe => pa_cons (pv pn xe) (pa pn xe) hs, fun F σ H ρ ds Q er e k => ?_, fun ρ ds e => ?_, fun ρ c e => ?_⟩
  · rcases hrd ρ with ⟨x, h1, o, h2⟩ | h1
    · simp only [cA, h1, R.ok_bind] at e
      cases hh : h ρ with
      | ok xs =>
        rw [hh] at e
        cases e
        obtain ⟨v, v1, v2⟩ := er.rd h2
        exact ⟨v, v1, qa F σ H ρ xs _ er hh fun vs H' s r => k (v :: vs) H' s ⟨v, vs, rfl, v2.same s, r⟩⟩
      | raise c => exact absurd hh (na ρ c)
      | stuck => rw [hh] at e; cases e
    · simp only [cA, h1, R.stuck_bind] at e; cases e
  · rcases hrd ρ with ⟨x, h1, o, h2⟩ | h1
    · simp only [cA, h1, R.ok_bind] at e
      cases hh : h ρ with
      | ok xs =>
        rw [hh] at e
        cases e
        rw [List.length_cons, List.length_cons, la ρ xs hh]
      | raise c => exact absurd hh (na ρ c)
      | stuck => rw [hh] at e; cases e
    · simp only [cA, h1, R.stuck_bind] at e; cases e
  · rcases hrd ρ with ⟨x, h1, o, h2⟩ | h1
    · simp only [cA, h1, R.ok_bind] at e
      cases hh : h ρ with
      | ok xs => rw [hh] at e; cases e
      | raise c => exact absurd hh (na ρ c)
      | stuck => rw [hh] at e; cases e
    · simp only [cA, h1, R.stuck_bind] at e; cases e
theorem wx_word {K : PySem.W.Frag} {cSome : Value} {i : Nat} {D : Ends} {σ : St} {H : Hp} {c : Nat} (hi : i < σ.length) (hx : PySem.W.exmOne K (.ref (C c)) cSome = some true) (hc : c < 3) (hq : ∀ H', Same H H' → D.rt (.str (wordOf c)) H') :
    wAs K cSome i (tsW C i) (fun _ _ _ _ => False) D (.ref (C c)) none σ H := by
  refine ⟨true, hx, fun _ a ha => ⟨⟨c, hc, rfl, rfl, hq⟩, ?_⟩, fun z => by cases z⟩
  rw [List.getElem?_set_self hi]
theorem ss_tryX {i k kw n : Nat} {es : List Expr} {a : Expr} {h : Ev → R (List D)} {gr : List D → R D} {f x xs e : Str} {p p1 p2 p3 p4 p5 q : Pos} {fpos : Pos} {sp : Pos}
    (cf : Cal X.prog X.w X.K X.mg X.base C f k n gr) (cw : CalW X.prog X.w X.K X.mg X.base C x kw) (hx : ExmAt X.K X.mg C xs) (hr : Room k X.A) (hrw : Room kw X.A) (ha : SAt X (a :: es) h) (pv : ∀ b oe pn, PE (X.suite b ((b, oe) :: pn)) (.Name e q) (tVar i)) (hN : X.N.Nodup)
    (hs : X.stack = X.env :: X.outer := by rfl) (hf : X.env.frame = some X.env.locals := by rfl) (hi : X.N[i]? = some e := by rfl) (hln : X.env.kindOf e = some .local := by rfl)
    (hgf : Gl X f := by rfl) (hgx : Gl X x := by rfl) (hgs : Gl X xs := by rfl) (hlen : n = es.length + 1 := by rfl) (hdf : (f == ("__debug__" : Str)) = false := by decide) (hdx : (x == ("__debug__" : Str)) = false := by decide) (hds : (xs == ("__debug__" : Str)) = false := by decide)
    (he : starEach [.Name e q] X.env = (false, eval (.Name e q) X.env) :: starEach [] X.env := by rfl) (hpl : (backTo p2 (starEach [] X.env)).any (·.1) = false := by rfl)
    (he2 : starEach (a :: es) X.env = (false, eval a X.env) :: starEach es X.env := by rfl) (hpl2 : (backTo fpos (starEach es X.env)).any (·.1) = false := by rfl) (hsw : swapsWith (.Call (.Name f p3) (a :: es) [] fpos) none sp.line X.env = pure false := by rfl) :
    SS X EX C (.Try [.Expr (.Call (.Name f p3) (a :: es) [] fpos) sp] [.ExceptHandler (some (.Name xs p4)) (some e) [.Return (some (.Call (.Name x p) [.Name e q] [] p2)) p1] p5] [] [] pos) (tryO i gr h) := by
  obtain ⟨cs, hms, hex⟩ := hx
  obtain ⟨fa, fd, ps, l1, F, hm, hk, hb⟩ := cf
  obtain ⟨ta, pa, qa, la, na⟩ := ha
  refine ⟨_, L2N.ps_try_as (i := i) (c := .ref cs) (Wout := fun _ _ _ _ => False) (tb := fun W => tDrop (tCallS (spR X.K C n gr) (WE W) ta)) (ts := tsW C i) hs hf hN hi hln ⟨hgs, hds, .inl hms⟩ takes0N ?_ ?_, fun F1 σ H ρ D er w => ?_⟩
  · intro W pn xe tk _
    exact pss_one (ps_expr (pe_callS (X := X.tr pn xe) F hr hgf hm hk hb (fun σ => L2N.passAt tk σ) (pa pn xe) hdf he2 hpl2) hsw)
  · intro b oe cls d pn hz hfl
    exact suiteW cw hrw hz hfl hgx (pv b oe pn) hdx he hpl
  · show ta σ H _
    unfold tryO at w
    cases hh : h ρ with
    | stuck => rw [hh] at w; exact (show False from w).elim
    | raise c => exact absurd hh (na ρ c)
    | ok ds =>
      rw [hh] at w
      refine qa F1 σ H ρ ds _ er hh fun vs H1 s1 r1 => ?_
      refine ⟨ds, by rw [RDs.length r1, la ρ ds hh, hlen]; rfl, r1, ?_⟩
      simp only [R.ok_bind] at w
      cases hg : gr ds with
      | ok d =>
        rw [hg] at w
        intro v H2 s2 _
        exact w F1 σ H2 (Same.refl F1) (Same.tups (s1.trans s2)) (er.mono (s1.trans s2))
      | raise c =>
        rw [hg] at w
        intro H2 s2
        by_cases hc : c < 3 ∧ i < ρ.length
        · simp only [if_pos hc] at w
          exact wx_word (by rw [er.len]; exact hc.2) (hex c hc.1) hc.1 fun H3 s3 => w _ H3 (er.same.trans (s1.trans (s2.trans s3))) rn_str
        · simp only [if_neg hc] at w
          exact (show False from w).elim
      | stuck => rw [hg] at w; exact (show False from w).elim
theorem ss_tryR {i k kw n : Nat} {es : List Expr} {a : Expr} {h : Ev → R (List D)} {gr : List D → R D} {f x xs e : Str} {p p1 p2 p3 p4 p5 q : Pos} {fpos : Pos} {sp : Pos}
    (cf : Cal X.prog X.w X.K X.mg X.base C f k n gr) (cw : CalW X.prog X.w X.K X.mg X.base C x kw) (hx : ExmAt X.K X.mg C xs) (hr : Room k X.A) (hrw : Room kw X.A) (ha : SAt X (a :: es) h) (pv : ∀ b oe pn, PE (X.suite b ((b, oe) :: pn)) (.Name e q) (tVar i)) (hN : X.N.Nodup)
    (hs : X.stack = X.env :: X.outer := by rfl) (hf : X.env.frame = some X.env.locals := by rfl) (hi : X.N[i]? = some e := by rfl) (hln : X.env.kindOf e = some .local := by rfl)
    (hgf : Gl X f := by rfl) (hgx : Gl X x := by rfl) (hgs : Gl X xs := by rfl) (hlen : n = es.length + 1 := by rfl) (hdf : (f == ("__debug__" : Str)) = false := by decide) (hdx : (x == ("__debug__" : Str)) = false := by decide) (hds : (xs == ("__debug__" : Str)) = false := by decide)
    (he : starEach [.Name e q] X.env = (false, eval (.Name e q) X.env) :: starEach [] X.env := by rfl) (hpl : (backTo p2 (starEach [] X.env)).any (·.1) = false := by rfl)
    (he2 : starEach (a :: es) X.env = (false, eval a X.env) :: starEach es X.env := by rfl) (hpl2 : (backTo fpos (starEach es X.env)).any (·.1) = false := by rfl) :
    SS X EX C (.Try [.Return (some (.Call (.Name f p3) (a :: es) [] fpos)) sp] [.ExceptHandler (some (.Name xs p4)) (some e) [.Return (some (.Call (.Name x p) [.Name e q] [] p2)) p1] p5] [] [] pos) (tryRO i gr h) := by
  obtain ⟨cs, hms, hex⟩ := hx
  obtain ⟨fa, fd, ps, l1, F, hm, hk, hb⟩ := cf
  obtain ⟨ta, pa, qa, la, na⟩ := ha
  refine ⟨_, L2N.ps_try_as (i := i) (c := .ref cs) (Wout := fun _ _ _ _ => False) (tb := fun W => tRet (tCallS (spR X.K C n gr) (WE W) ta)) (ts := tsW C i) hs hf hN hi hln ⟨hgs, hds, .inl hms⟩ takes0N ?_ ?_, fun F1 σ H ρ D er w => ?_⟩
  · intro W pn xe tk _
    exact pss_one (ps_ret (pe_callS (X := X.tr pn xe) F hr hgf hm hk hb (fun σ => L2N.passAt tk σ) (pa pn xe) hdf he2 hpl2))
  · intro b oe cls d pn hz hfl
    exact suiteW cw hrw hz hfl hgx (pv b oe pn) hdx he hpl
  · show ta σ H _
    unfold tryRO at w
    cases hh : h ρ with
    | stuck => rw [hh] at w; exact (show False from w).elim
    | raise c => exact absurd hh (na ρ c)
    | ok ds =>
      rw [hh] at w
      refine qa F1 σ H ρ ds _ er hh fun vs H1 s1 r1 => ?_
      refine ⟨ds, by rw [RDs.length r1, la ρ ds hh, hlen]; rfl, r1, ?_⟩
      simp only [R.ok_bind] at w
      cases hg : gr ds with
      | ok d =>
        rw [hg] at w
        intro v H2 s2 r2
        exact w v H2 (er.same.trans (s1.trans s2)) (r2.less (er.same.trans s1))
      | raise c =>
        rw [hg] at w
        intro H2 s2
        by_cases hc : c < 3 ∧ i < ρ.length
        · simp only [if_pos hc] at w
          exact wx_word (by rw [er.len]; exact hc.2) (hex c hc.1) hc.1 fun H3 s3 => w _ H3 (er.same.trans (s1.trans (s2.trans s3))) rn_str
        · simp only [if_neg hc] at w
          exact (show False from w).elim
      | stuck => rw [hg] at w; exact (show False from w).elim
end

/-! ### the word of an exception -/
structure WrdFacts (K : PySem.W.Frag) (mg : Str → Option Value) (C : Nat → Addr) : Prop where
  g0 : mg "NoValue" = some (.ref (C 0))
  g1 : mg "NotPlain" = some (.ref (C 1))
  g2 : mg "NoNote" = some (.ref (C 2))
  ex : ∀ c, c < 3 → ExcC K (C c)
  io : ∀ c j, c < 3 → j < 3 → PySem.W.kitOne K (.ref (C c)) (.ref (C j)) = some (decide (c = j))
  ve : ∀ c, c < 3 → PySem.W.kitOne K (.ref (C c)) (.type "ValueError") = some true
def gW (a : Addr) (x0 x1 x2 : Bool) : Ev → R Out :=
  (seqO (setO 1 (ap mkLst nA))
  (seqO (ifO (tV (exR 0 a x0)) (appO 1 (kS "no value")) nxO)
  (seqO (ifO (tV (exR 0 a x1)) (appO 1 (kS "not plain")) nxO)
  (seqO (ifO (tV (exR 0 a x2)) (appO 1 (kS "no note")) nxO)
  (seqO (ifO (tNot1 (tV (exR 0 a true))) (appO 1 (kS "no ValueError")) nxO)
  (retO (b2 joinD (kS "") (rdE 1))))))))
theorem gW_ok (a : Addr) (c : Nat) (hc : c < 3) : gW a (decide (c = 0)) (decide (c = 1)) (decide (c = 2)) (.raw (.ref a) :: un 1) = .ok (.rt (.t (.str (wordOf c)))) := by
  have h : c = 0 ∨ c = 1 ∨ c = 2 := by omega
  have j0 : joinD (.t (.str "")) (.lst [.str "no value"]) = .ok (.t (.str "no value")) := by rfl
  have j1 : joinD (.t (.str "")) (.lst [.str "not plain"]) = .ok (.t (.str "not plain")) := by rfl
  have j2 : joinD (.t (.str "")) (.lst [.str "no note"]) = .ok (.t (.str "no note")) := by rfl
  have h1 : ∀ (f : Ev → R D) ρ, tV f ρ = (f ρ >>= asB) := fun f ρ => rfl
  rcases h with rfl | rfl | rfl <;> simp [gW, exR, un, mkLst, asTs, appO, asB, rdE, j0, j1, j2, wordOf]
/-- an exception's class in the frame -/
structure EF (K : PySem.W.Frag) (e eS : Addr) : Prop where
  q : PySem.W.excIn K e [.type "ValueError", .type "Exception", .type "BaseException", .type "object"] "ValueError.__new__" = true
  k : PySem.W.keepIn K (.ref e) = true
  s : PySem.W.subIn K (.ref e) (.type "BaseException") = some true
  t : PySem.W.typeIn K (.ref e) = some (.type "type")
  hg : PySem.W.findIn K (.ref e) "__getattribute__" = some (some (.builtin "BaseException.__getattribute__"))
  hk : PySem.W.findIn K (.ref e) "__getattr__" = some none
  hd : PySem.W.hasDictIn K e = true
  ha : PySem.W.findIn K (.ref e) "__class__" = some (some (.builtin "object.__class__"))
  hm : PySem.W.mroIn K e (.type "object") = some true
  v : PySem.W.subIn K (.ref e) (.type "ValueError") = some true
  o : PySem.W.subIn K (.ref e) (.ref eS) = some true
theorem ef_cls {K : PySem.W.Frag} {e eS : Addr} (f : EF K e eS) : (PySem.W.clsIn K e).isSome = true := by
  obtain ⟨cd, hc, _⟩ := PySem.W.any_some f.hd
  rw [hc]; rfl
theorem kit_ref {K : PySem.W.Frag} {e f eS : Addr} (g : EF K f eS) {b : Bool} (hn : e ≠ f ∨ b = true) (h : PySem.W.subIn K (.ref e) (.ref f) = some b) : PySem.W.kitOne K (.ref e) (.ref f) = some b := by
  unfold PySem.W.kitOne
  split
  · rename_i q
    have : e = f := by simpa using q
    rcases hn with hn | hn
    · exact absurd this hn
    · rw [hn]
  · unfold PySem.W.kitCls
    simp only [ef_cls g, g.t]
    exact h
def cs3 (e0 e1 e2 : Addr) (n : Nat) : Addr := if n = 0 then e0 else if n = 1 then e1 else e2
theorem excs_of {K : PySem.W.Frag} {mg : Str → Option Value} {h : Heap} {e0 e1 e2 eS : Addr} (KX : K.In h) (G : h.Ns mainGlobals mg) (n0 : PySem.W.nsIn K mainGlobals "NoValue" = some (some (.ref e0))) (n1 : PySem.W.nsIn K mainGlobals "NotPlain" = some (some (.ref e1))) (n2 : PySem.W.nsIn K mainGlobals "NoNote" = some (some (.ref e2)))
    (nS : PySem.W.nsIn K mainGlobals "SomeError" = some (some (.ref eS))) (f0 : EF K e0 eS) (f1 : EF K e1 eS) (f2 : EF K e2 eS) (h01 : e0 ≠ e1) (h02 : e0 ≠ e2) (h12 : e1 ≠ e2)
    (s01 : PySem.W.subIn K (.ref e0) (.ref e1) = some false) (s02 : PySem.W.subIn K (.ref e0) (.ref e2) = some false) (s10 : PySem.W.subIn K (.ref e1) (.ref e0) = some false) (s12 : PySem.W.subIn K (.ref e1) (.ref e2) = some false) (s20 : PySem.W.subIn K (.ref e2) (.ref e0) = some false) (s21 : PySem.W.subIn K (.ref e2) (.ref e1) = some false)
    (s00 : PySem.W.subIn K (.ref e0) (.ref e0) = some true) (s11 : PySem.W.subIn K (.ref e1) (.ref e1) = some true) (s22 : PySem.W.subIn K (.ref e2) (.ref e2) = some true)
    (tS : PySem.W.typeIn K (.ref eS) = some (.type "type")) (bS : PySem.W.subIn K (.ref eS) (.type "BaseException") = some true) (dS : PySem.W.hasDictIn K eS = true)
    (sn : PySem.W.specialIn K (.builtin "object.__class__") "__get__" = some (some (.builtin "getset_descriptor.__get__"))) (st : PySem.W.takesIn K (.builtin "object.__class__") = some true) :
    WrdFacts K mg (cs3 e0 e1 e2) ∧ ExmAt K mg (cs3 e0 e1 e2) "SomeError" ∧ ExcAt K mg (cs3 e0 e1 e2) "NoValue" 0 ∧ ExcAt K mg (cs3 e0 e1 e2) "NotPlain" 1 ∧ ExcAt K mg (cs3 e0 e1 e2) "NoNote" 2 := by
  have m0 := PySem.W.mg_of KX G n0
  have m1 := PySem.W.mg_of KX G n1
  have m2 := PySem.W.mg_of KX G n2
  have mS := PySem.W.mg_of KX G nS
  have c3 : ∀ c, c < 3 → c = 0 ∨ c = 1 ∨ c = 2 := fun c h => by omega
  have ec : ∀ {e : Addr}, EF K e eS → ExcC K e := fun f => ⟨f.hg, f.hk, f.s, f.hd, f.ha, sn, st, f.hm⟩
  have ev : ∀ {e : Addr}, EF K e eS → PySem.W.kitOne K (.ref e) (.type "ValueError") = some true := fun f => by
    unfold PySem.W.kitOne
    rw [if_neg (by simp)]
    have km : PySem.W.kitMeta "ValueError" = true := by decide +kernel
    simp only [PySem.W.kitCls, km, if_true]
    exact f.v
  have ex : ∀ {e : Addr}, EF K e eS → PySem.W.exmOne K (.ref e) (.ref eS) = some true := fun f => PySem.W.exm_ref bS dS tS f.o
  refine ⟨⟨m0, m1, m2, fun c hc => ?_, fun c j hc hj => ?_, fun c hc => ?_⟩, ⟨eS, mS, fun c hc => ?_⟩, ⟨f0.q, m0, f0.k, f0.s, f0.t⟩, ⟨f1.q, m1, f1.k, f1.s, f1.t⟩, ⟨f2.q, m2, f2.k, f2.s, f2.t⟩⟩
  · rcases c3 c hc with rfl | rfl | rfl
    · exact ec f0
    · exact ec f1
    · exact ec f2
  · rcases c3 c hc with rfl | rfl | rfl <;> rcases c3 j hj with rfl | rfl | rfl
    · exact kit_ref f0 (.inr rfl) s00
    · exact kit_ref f1 (.inl h01) s01
    · exact kit_ref f2 (.inl h02) s02
    · exact kit_ref f0 (.inl h01.symm) s10
    · exact kit_ref f1 (.inr rfl) s11
    · exact kit_ref f2 (.inl h12) s12
    · exact kit_ref f0 (.inl h02.symm) s20
    · exact kit_ref f1 (.inl h12.symm) s21
    · exact kit_ref f2 (.inr rfl) s22
  · rcases c3 c hc with rfl | rfl | rfl
    · exact ev f0
    · exact ev f1
    · exact ev f2
  · rcases c3 c hc with rfl | rfl | rfl
    · exact ex f0
    · exact ex f1
    · exact ex f2
theorem cal_word {P : Program} {w : World} {K : PySem.W.Frag} {mg : Str → Option Value} {base : Heap} {C : Nat → Addr} {x : Str} {st : Stmt} {N : List Str} {y : Str} {k : Nat} (D_ : DefAt K mg x st) (S : FnScope N [y] (defScope st)) (hN : N.length = 2)
    (hbi : ∀ (kV doc pm : Value) (an : Option Addr) (cdv ct : Value) (us : List Value), us.length = 1 → bindArgs (PySem.W.fnOf x x (defArgs st) (defBody st) (defScope st) .none kV doc pm an cdv ct) ⟨us, []⟩ = pure ([y].zip us))
    (hb : ∀ (f : Addr) (cdv : Value) (A : Around) (outer : List Env) (s : Shared) (H : Hp) (E : XK) (p : Addr × Obj) (c : Nat), c < 3 → (∃ vs, p.2.data = .fields vs) → Zc (.ref (C c)) none p.2 →
      SB (L2H.cxH (L2N.CX P w) P w K mg base N x (defScope st) f cdv A outer s H E p) E0 C (defBody st) (gW p.1 (decide (c = 0)) (decide (c = 1)) (decide (c = 2)))) : CalW P w K mg base C x (k + 1) := by
  obtain ⟨fa, fd, F, hg⟩ := D_
  have hbd : Binds K fd [y] [] := F.binds hbi
  have hkp := F.kp
  obtain ⟨oc, od, kV, doc, pm, an, cdv, ct, osl, rfl, lk, hcd⟩ := F.ex
  refine ⟨fa, _, y, runW_of lk hcd S fun A outer s H E p c hc hot hz hr => ?_, hg, hkp, hbd⟩
  obtain ⟨_, vs, e, _⟩ := hot
  refine ⟨_, hb fa cdv A outer s H E p c hc ⟨vs, e⟩ hz, _, ?_, rfl⟩
  rw [hN]
  exact gW_ok p.1 c hc
end Pf

set_option Elab.async false
set_option linter.all false
set_option maxRecDepth 100000
set_option maxHeartbeats 4000000
namespace Pf
open PySem L2 PyProof.Rows
/-! ## dicts whose keys are nested tuples -/
section
variable {X : Cx} {pins : List (Addr × Obj)} {σ : L2.St} {H : Hp} {s : Shared}
mutual
theorem nested_of (I : Inv X pins σ H s) : ∀ (n : Nat) (x : T) (v : V) (u : Value), keyN n x = true → RT X.K H x v → RelV v u → NestedIs s.heap (keyK x) u
  | _, .non, _, _, h, _, _ => by simp [keyN] at h
  | _, .bl _, _, _, h, _, _ => by simp [keyN] at h
  | _, .int i, v, u, _, r, ru => by
    unfold RT at r; subst r
    obtain ⟨t, rfl⟩ := ru
    exact .int i t
  | _, .str i, v, u, _, r, ru => by
    unfold RT at r; subst r
    obtain ⟨t, rfl⟩ := ru
    exact .text i t
  | 0, .tup _, _, _, h, _, _ => by simp [keyN] at h
  | n + 1, .tup xs, v, u, h, r, ru => by
    unfold RT at r
    obtain ⟨a, vs, rfl, q, rs⟩ := r
    cases ru
    obtain ⟨its, rv, ⟨o, ho, hc, m, hd⟩, _⟩ := I.tuple q
    simp only [keyN] at h
    unfold keyK
    exact .tup ho hc hd (by simpa using nesteds_of I n xs vs its h rs rv)
theorem nesteds_of (I : Inv X pins σ H s) : ∀ (n : Nat) (xs : List T) (vs : List V) (us : List Value), keyNs n xs = true → RTs X.K H xs vs → Vals vs us → NestedAll s.heap (keyKs xs) us
  | _, [], vs, us, _, r, ru => by
    rw [r.unnil] at ru
    cases ru
    unfold keyKs; exact .nil
  | n, x :: xs, vs, us, h, r, ru => by
    obtain ⟨v, ws, rfl, r1, rs⟩ := r.uncons
    simp only [keyNs, Bool.and_eq_true] at h
    cases ru with
    | cons ra rb =>
      unfold keyKs
      exact .cons (nested_of I n x v _ h.1 r1 ra) (nesteds_of I n xs ws _ h.2 rs rb)
end
theorem key_at (I : Inv X pins σ H s) {x : T} {b : Addr} (h : keyT x = true) (r : RT X.K H x (.ref b)) : (nestedKind X.prog X.w).is s.heap (keyK x) b := by
  obtain ⟨xs, rfl, h8⟩ := keyT_tup h
  exact ⟨nested_of I 8 _ _ _ h8 r rfl, keyN_depth 8 _ h8⟩
theorem seen_get {w : World} {a : Addr} {xs : List (NestedKey × Addr)} (I : Inv X pins σ H s) (ha : H a = some (SeenO w a xs)) : (a == sysModules) = false ∧ ∃ o es ep, s.heap.get? a = some o ∧ o.ExactDict ∧ o.data = .dict es ep ∧ es.toList = xs.map fun q => (⟨NestedKey.hash w q.1, .ref q.2, .bool true⟩ : DictEntry) := (I.hok a _ ha).1
theorem seen_new {P : Program} {w : World} {H : Hp} {h : Heap} {a : Addr} {xs : List (NestedKey × Addr)} (hs : (a == sysModules) = false) {o : Obj} {es : Array DictEntry} {ep : Nat} (ho : h.get? a = some o) (hx : o.ExactDict) (hd : o.data = .dict es ep) (he : es.toList = xs.map fun q => (⟨NestedKey.hash w q.1, .ref q.2, .bool true⟩ : DictEntry)) : ObjOk P w H h a (SeenO w a xs) :=
  ⟨⟨hs, o, es, ep, ho, hx, hd, he⟩, ⟨o, ho⟩, fun h1 h2 ⟨p0, o1, es1, ep1, p1, p2, p3, p4⟩ k => ⟨p0, o1, es1, ep1, k o1 p1, p2, p3, p4⟩⟩
/-- the keys are keys in the heap -/
theorem seen_is {a : Addr} {ts : List T} {xs : List (NestedKey × Addr)} (I : Inv X pins σ H s) (ha : H a = some (SeenO X.w a xs)) (r : SeenR X.K H ts xs) : s.heap.DictOfH (nestedKind X.prog X.w) a (xs.map fun q => (q.1, q.2, Value.bool true)) := by
  obtain ⟨hs, o, es, ep, ho, hx, hd, he⟩ := seen_get I ha
  refine ⟨o, es, ep, ho, hx, hd, ?_, fun x hxm => ?_, ?_⟩
  · rw [he, List.map_map]; rfl
  · obtain ⟨q, hq, rfl⟩ := List.mem_map.mp hxm
    obtain ⟨i, hi⟩ := List.getElem?_of_mem hq
    have hk : (xs.map (·.1))[i]? = some q.1 := by rw [List.getElem?_map, hi]; rfl
    have hv : (xs.map fun q => V.ref q.2)[i]? = some (V.ref q.2) := by rw [List.getElem?_map, hi]; rfl
    rw [r.keys, List.getElem?_map] at hk
    obtain ⟨t, ht, e⟩ := Option.map_eq_some_iff.mp hk
    obtain ⟨t2, ht2, rt⟩ := RTs.getV r.vals hv
    rw [ht] at ht2; cases ht2
    rw [← e]
    exact key_at I (r.ok t (List.mem_of_getElem? ht)) rt
  · rw [List.map_map]
    have e : xs.map ((·.1) ∘ fun q => (q.1, q.2, Value.bool true)) = xs.map (·.1) := rfl
    rw [e, r.keys]
    have hn := r.nd
    have ho := r.ok
    clear r
    induction ts with
    | nil => simp
    | cons t ts ih =>
      obtain ⟨h1, h2⟩ := List.nodup_cons.mp hn
      rw [List.map_cons, List.nodup_cons]
      refine ⟨fun q => ?_, ih h2 fun t ht => ho t (List.mem_cons_of_mem _ ht)⟩
      obtain ⟨t', ht', e2⟩ := List.mem_map.mp q
      exact h1 (keyT_inj (ho t' (List.mem_cons_of_mem _ ht')) (ho t (by simp)) e2 ▸ ht')
end
noncomputable instance decT : DecidableEq T := fun _ _ => Classical.propDecidable _
noncomputable instance decW : DecidableEq World := fun _ _ => Classical.propDecidable _
noncomputable def putT (ks : List T) (k : T) : List T := if k ∈ ks then ks else ks ++ [k]
theorem atKey_seen {xs : List (NestedKey × Addr)} {k : NestedKey} : (atKey (xs.map fun q => (q.1, q.2, Value.bool true)) k).isSome = true ↔ k ∈ xs.map (·.1) := by
  unfold atKey
  rw [Option.isSome_map, List.find?_isSome]
  constructor
  · rintro ⟨x, hx, e⟩
    obtain ⟨q, hq, rfl⟩ := List.mem_map.mp hx
    exact List.mem_map.mpr ⟨q, hq, by simpa using e⟩
  · intro h
    obtain ⟨q, hq, e⟩ := List.mem_map.mp h
    exact ⟨_, List.mem_map.mpr ⟨q, hq, rfl⟩, by simpa using e⟩
theorem putAt_seen (k : NestedKey) (xs : List (NestedKey × Addr)) : (xs.map fun q => (q.1, q.2, Value.bool true)).map (putAt k (.bool true)) = xs.map fun q => (q.1, q.2, Value.bool true) := by
  rw [List.map_map]
  apply List.map_congr_left
  intro q _
  simp only [Function.comp, putAt]
  split <;> rfl
section
variable {X : Cx} {EX : XK} {C : Nat → Addr} {a b : Expr} {f g : Ev → R D} {pos : Pos}
/-- {} , to be such a dict -/
def kDs (w : World) (_ : Ev) : R D := .ok (.sn w [])
theorem sn_snew : SN X EX C (.Dict [] [] pos) (kDs X.w) := by
  refine ⟨fun _ H Q => ∀ p, H p = none → Q (.ref p) (upd H p (SeenO X.w p [])), ⟨fun pins s σ H Q I h =>
    wpAny_Dict_empty ⟨.ref s.heap.objs.size, _, I.laid (a := s.heap.objs.size) (o := SeenO X.w s.heap.objs.size []) (t' := s.toks) (fun _ _ q => Heap.get?_push_of_some _ q) (Nat.le_refl _) (seen_new (beq_eq_false_iff_ne.mpr (Ne.symm (Nat.ne_of_lt I.big))) (Heap.get?_push_size _ rfl) ⟨rfl, rfl, rfl⟩ rfl rfl), rfl, h _ (I.hok.fresh (Nat.le_refl _))⟩⟩, fun F σ H ρ Q er w p hp => ?_⟩
  have w' : WN X.K EX C H (R.ok (.sn X.w [])) Q := w
  exact w' _ _ (same_new hp _) ⟨p, [], rfl, hp, upd_same, ⟨rfl, RTs.nil, by simp, by simp, by simp⟩⟩
/-- d[k] = True -/
noncomputable def sputO (w : World) (i : Nat) (fk fv : Ev → R D) (ρ : Ev) : R Out := fv ρ >>= fun v => match ρ[i]? with
  | some (.d (.sn w' ks) true) => fk ρ >>= fun k => match k, v with
    | .t k, .t (.bl true) => if w' = w ∧ keyT k = true ∧ ks.length < 16777216 then .ok (.nx (ρ.set i (.d (.sn w (putT ks k)) true))) else .stuck
    | _, _ => .stuck
  | _ => .stuck
def sSPut (w : World) (K : PySem.W.Frag) (td ty tv : TE) : TS := fun D σ H => tv σ H fun v H1 => td σ H1 fun x H2 => ty σ H2 fun y H3 => ∃ (a : Addr) (ts : List T) (xs : List (NestedKey × Addr)) (t : T) (b : Addr), x = .ref a ∧ y = .ref b ∧ v = .bl true ∧ H3 a = some (SeenO w a xs) ∧ SeenR K H3 ts xs ∧
  keyT t = true ∧ RT K H3 t (.ref b) ∧ ts.length < 16777216 ∧ D.nx σ (upd H3 a (SeenO w a (if t ∈ ts then xs else xs ++ [(keyK t, b)])))
theorem ps_sput {o i value : Expr} {pos' : Pos} {td ty tv : TE} (hu : X.A.units + 64 < cLine) (ho : PE X o td) (hi : PE X i ty) (hv : PE X value tv) (hs : swapsWith value (some (.Subscript o i pos')) pos.line X.env = pure false) :
    PS X (.Assign [.Subscript o i pos'] value pos) (sSPut X.w X.K td ty tv) := by
  refine ⟨fun pins s σ H D I h => ?_⟩
  refine wpAny_Assign_Subscript (thn (hv.run pins s σ H _ I h) fun r s1 ⟨v, H1, I1, rv, q1⟩ => thn (ho.run pins s1 σ H1 _ I1 q1) fun u s2 ⟨x, H2, I2, rx, q2⟩ => thn (hi.run pins s2 σ H2 _ I2 q2) fun iv s3 ⟨y, H3, I3, ry, a, ts, xs, t, b, ex, ey, ev, ha, hr, hk, hb, hl, q3⟩ => ?_) hs
  subst ex ey ev
  obtain rfl : u = Value.ref a := rx
  obtain rfl : iv = Value.ref b := ry
  obtain rfl : r = Value.bool true := rv
  have dd := seen_is I3 ha hr
  obtain ⟨hsm, _⟩ := seen_get I3 ha
  have hlen : xs.length = ts.length := by have := congrArg List.length hr.keys; simpa using this
  have hroom : X.A.in1.units + 8 < cLine := by rw [Around.in1_units]; omega
  refine wpAny_setItem_heap (hsz := by rw [List.length_map, sizeLine_eq]; omega) hroom (key_at I3 hk hb) dd fun h' dd' hsb => ?_
  have hmem : (keyK t ∈ xs.map (·.1)) ↔ t ∈ ts := by
    rw [hr.keys]
    constructor
    · intro q
      obtain ⟨t', ht', e⟩ := List.mem_map.mp q
      exact keyT_inj (hr.ok t' ht') hk e ▸ ht'
    · intro q; exact List.mem_map.mpr ⟨t, q, rfl⟩
  have hst : storedH (xs.map fun q => (q.1, q.2, Value.bool true)) (keyK t) b (.bool true) = (if t ∈ ts then xs else xs ++ [(keyK t, b)]).map fun q => (q.1, q.2, Value.bool true) := by
    cases e : atKey (xs.map fun q => (q.1, q.2, Value.bool true)) (keyK t) with
    | some p =>
      rw [storedH_old e, putAt_seen, if_pos (hmem.mp (atKey_seen.mp (by rw [e]; rfl)))]
    | none =>
      rw [storedH_new e, if_neg (fun q => by have := atKey_seen.mpr (hmem.mpr q); rw [e] at this; cases this), List.map_append]; rfl
  rw [hst] at dd'
  obtain ⟨ob, es, ep, hob, hx, hd, he, _, _⟩ := dd'
  refine ⟨σ, upd H3 a (SeenO X.w a (if t ∈ ts then xs else xs ++ [(keyK t, b)])), d_write I3 (by rw [ha]; trivial) hsb ⟨ob, hob⟩ (seen_new hsm hob hx hd ?_), q3⟩
  rw [he, List.map_map]; rfl
theorem ss_sput {i : Nat} {x : Str} {p pos' : Pos} {ek ev : Expr} (hu : X.A.units + 64 < cLine) (hv : PE X (.Name x p) (tVar i)) (hk : SE X EX C ek f) (he : SE X EX C ev g)
    (hs : swapsWith ev (some (.Subscript (.Name x p) ek pos')) pos.line X.env = pure false := by rfl) : SS X EX C (.Assign [.Subscript (.Name x p) ek pos'] ev pos) (sputO X.w i f g) := by
  obtain ⟨tk, pk, qk⟩ := hk
  obtain ⟨te, pe, qe⟩ := he
  refine ⟨_, ps_sput hu hv pk pe hs, fun F σ H ρ D er w => ?_⟩
  refine qe F σ H ρ _ er ((WS.bind w er.same).imp fun d _ k u H1 s1 r1 => ?_)
  split at k
  · rename_i w' kvs h
    have er1 := er.mono s1
    obtain ⟨v, g1, g2, _⟩ := er1.slot _ _ _ h
    obtain ⟨a, xs, rfl, hF, ha, hr⟩ := g2 rfl
    refine ⟨.ref a, g1, ?_⟩
    refine qk F σ H1 ρ _ er1 ((WS.bind (k.grow (Same.refl F) (Same.tups s1)) er1.same).imp fun dk _ k2 vk H2 s2 r2 => ?_)
    split at k2
    · rename_i key _ _
      split at k2
      · rename_i hz
        obtain ⟨rfl, hkt, hlen⟩ := hz
        have r1' := rt_bl (r1.same s2)
        subst r1'
        have r2' : RT X.K H2 key vk := r2
        obtain ⟨zs, rfl, h8⟩ := keyT_tup hkt
        obtain ⟨b, ys, rfl, hb, hys⟩ := rt_tup r2
        have hr2 := hr.mono (fun _ _ q => Same.sqT s2 q)
        have ha2 := s2 _ _ ha
        refine ⟨a, kvs, xs, .tup zs, b, rfl, rfl, rfl, ha2, hr2, hkt, r2', hlen, ?_⟩
        refine k2 F σ _ (Same.refl F) ((Same.tups s2).trans (upd_tups ha2 trivial)) ((er1.mono s2).wrote h (fun z e => by cases e) g1 hF ha2 trivial ?_)
        refine ⟨a, _, rfl, hF, upd_same, ?_⟩
        have hr3 := hr2.mono (fun _ _ q => sqT_upd (o' := SeenO X.w a (if T.tup zs ∈ kvs then xs else xs ++ [(keyK (.tup zs), b)])) ha2 trivial q)
        by_cases hm : T.tup zs ∈ kvs
        · have e : putT kvs (.tup zs) = kvs := by unfold putT; rw [if_pos hm]
          rw [e]
          simp only [if_pos hm] at hr3 ⊢
          exact hr3
        · have e : putT kvs (.tup zs) = kvs ++ [.tup zs] := by unfold putT; rw [if_neg hm]
          rw [e]
          simp only [if_neg hm] at hr3 ⊢
          refine ⟨by rw [List.map_append, List.map_append, hr3.keys]; rfl, ?_, fun t ht => ?_, ?_, by simp; omega⟩
          · rw [List.map_append]
            exact hr3.vals.append (RTs.cons (RT.mono (fun _ _ q => sqT_upd ha2 trivial q) _ _ r2') RTs.nil)
          · rcases List.mem_append.mp ht with q | q
            · exact hr3.ok t q
            · simp at q; rw [q]; exact hkt
          · rw [List.nodup_append]
            exact ⟨hr3.nd, by simp, fun x hx y hy e2 => by simp at hy; subst hy; exact hm (e2 ▸ hx)⟩
      · exact k2.elim
    · exact k2.elim
  · exact k.elim
/-- list(d) -/
def listSn : List D → R D
  | [.sn _ ks] => .ok (.lst ks)
  | _ => .stuck
def rListSn : List V → Hp → VK → Prop := fun vs H Q => ∃ (w : World) (p : Addr) (xs : List (NestedKey × Addr)), vs = [.ref p] ∧ H p = some (SeenO w p xs) ∧ xs.length ≤ 16777216 ∧ ∀ q, H q = none → Q (.ref q) (upd H q (.lst (xs.map fun k => V.ref k.2)))
theorem cr_listSn (hc : X.calm = true) : CallR X (.type "list") rListSn := by
  intro pins s σ H vs us Q I r h
  obtain ⟨w, d, ks, rfl, hd, hz, q⟩ := h
  obtain ⟨u, rfl, rx⟩ := r.one
  cases rx
  obtain ⟨hs, o, es, ep, ho, hx, hdt, he⟩ := seen_get I hd
  have l1 : es.size = ks.length := by rw [← Array.length_toList, he, List.length_map]
  refine PySem.W.kdl_call (kdl_raw hs hx hdt) (I.ok.hd hc) ho (by rw [l1, sizeLine_eq]; exact hz) fun h' tk acc' c' kp e it => ?_
  have ea : acc'.toList = ks.map fun x => Value.ref x.2 := by
    have hl : acc'.toList.length = ks.length := by rw [Array.length_toList, it.1]; exact l1
    apply List.ext_getElem?
    intro j
    rw [List.getElem?_map]
    cases hj : acc'.toList[j]? with
    | none =>
      have h1 := List.getElem?_eq_none_iff.mp hj
      rw [List.getElem?_eq_none (by omega)]
      all_goals rfl
    | some v =>
      obtain ⟨en, hen, hv⟩ := it.2 j v (by rw [← Array.getElem?_toList]; exact hj)
      have qe : es[j]? = (ks[j]?).map fun q => (⟨NestedKey.hash w q.1, .ref q.2, .bool true⟩ : DictEntry) := by rw [← Array.getElem?_toList, he, List.getElem?_map]
      rw [hen] at qe
      cases hb : ks[j]? with
      | none => rw [hb] at qe; cases qe
      | some b =>
        rw [hb] at qe
        have e2 := Option.some.inj qe
        rw [hv, e2]
        all_goals rfl
  have eb : acc'.toList = (ks.map fun x => x.2).map Value.ref := by rw [ea, List.map_map]; all_goals rfl
  have ec : (ks.map fun k => V.ref k.2) = (ks.map fun x => x.2).map V.ref := by rw [List.map_map]; rfl
  have rv : Vals ((ks.map fun x => x.2).map V.ref) acc'.toList := by rw [eb]; exact vals_refs _
  rw [ec] at q
  have hz2 : ((ks.map fun x => x.2).map V.ref).length ≤ sizeLine := by rw [List.length_map, List.length_map, sizeLine_eq]; omega
  refine ⟨.ref s.heap.objs.size, _, I.laid (t' := tk) (o := .lst ((ks.map fun x => x.2).map V.ref)) kp (Nat.le_refl _) ?_, rfl, q _ (I.hok.fresh (Nat.le_refl _))⟩
  exact ⟨hz2, acc'.toList, c', rv, by rw [Array.toArray_toList]; exact e⟩
theorem im_listSn : Impl1 X EX C listSn rListSn := by
  intro ds vs H Q r w
  unfold listSn at w
  split at w
  · rename_i w0 ks
    obtain ⟨v, rfl, a, xs, rfl, ha, hr⟩ := rd1 r
    refine ⟨w0, a, xs, rfl, ha, ?_, fun q hq => w _ _ (same_new hq _) (new_lst hq hr.vals)⟩
    have := congrArg List.length hr.keys
    have h2 := hr.len
    simp at this; omega
  · exact w.elim
/-! ### len(d), tuple(d) -/
def lenSn : List D → R D
  | [.sn _ ks] => .ok (.t (.int ks.length))
  | _ => .stuck
def rLenSn (K : PySem.W.Frag) : List V → Hp → VK → Prop := fun vs H Q => ∃ (w : World) (p : Addr) (xs : List (NestedKey × Addr)), vs = [.ref p] ∧ H p = some (SeenO w p xs) ∧ xs.length ≤ 16777216 ∧ Q (.int xs.length) H
theorem len_body_raw {P : Program} {w : World} {A : Around} {E : Value → Shared → Prop} {s : Shared} {d : Addr} {o : Obj} {es : Array DictEntry} {ep : Nat} {Q : Value → Shared → Prop} (hd : (d == sysModules) = false) (ho : s.heap.get? d = some o) (hx : o.ExactDict) (hdt : o.data = .dict es ep) (hfit : (es.size : Int) < 2 ^ 63)
    (h : Q (.int es.size (s.toks + 1)) { s with toks := s.toks + 1 + 1 }) : wpAny (model P w) A (call (.builtin "len") [.ref d]) Q E s := by
  have hT : s.TypeIs (.ref d) "dict" := ⟨o, ho, hx.1⟩
  have hm : MeetsIn P w (Builtin.«dict.__len__» ⟨[.ref d], []⟩) (fun _ R s => (s.heap.get? d = some o) ∧ R (.ok (.ret (.int es.size s.toks))) { s with toks := s.toks + 1 }) :=
    .of_wp fun A R s ⟨ho, h⟩ => by
      show wpAny _ _ (dictSize d >>= _) _ _ s
      unfold dictSize
      refine wpAny_bind (wpAny_bind (wpAny_dictEntries ho hdt (wpAny_pure ?_)))
      show wpAny _ _ (Builtin.Dict.pendingCount d >>= _) _ _ s
      refine wpAny_bind (wpAny_pendingCount_other hd ?_)
      refine wpAny_ret_mkInt ?_
      rw [Nat.add_zero]; exact h
  refine Calls.call_function_entry kind_len plain_len entry_len (args_len1 _) ?_
  unfold Builtin.«len»
  refine wpAny_bind (m := oneArg "len" _) (wpAny_pure ?_)
  refine wpAny_bind (m := callSpecial? (.ref d) (Str.ofString "__len__")) (wpAny_callSpecial?_slot (name := Str.ofString "__len__") hT F.slot_dict_len
    (call_meetsIn F.slot_dict_len hT F.entry_dict_len (F.args_dict_len_1 _) hm ⟨ho, ?_⟩))
  show wpAny _ _ _ _ _ { s with toks := s.toks + 1 }
  refine wpAny_bind (wpAny_holding (wpAny_pure ?_))
  refine wpAny_bind (wpAny_letGo ?_)
  show wpAny _ _ (if ((es.size : Nat) : Int) < 0 then _ else _) _ _ _
  rw [if_neg (by omega)]
  show wpAny _ _ (if ((es.size : Nat) : Int) ≥ 2 ^ 63 then _ else _) _ _ _
  rw [if_neg (by omega)]
  exact wpAny_bind (wpAny_mkInt (wpAny_pure ⟨_, rfl, h⟩))
theorem cr_lenSn : CallR X (.builtin "len") (rLenSn X.K) := by
  intro pins s σ H vs us Q I r h
  obtain ⟨w, d, ks, rfl, hd, hz, q⟩ := h
  obtain ⟨u, rfl, rx⟩ := r.one
  cases rx
  obtain ⟨hs, o, es, ep, ho, hx, hdt, he⟩ := seen_get I hd
  have l1 : es.size = ks.length := by rw [← Array.length_toList, he, List.length_map]
  refine len_body_raw hs ho hx hdt (by omega) ?_
  rw [l1]
  exact ⟨.int ks.length, H, I.tok _, ⟨_, rfl⟩, q⟩
theorem im_lenSn : Impl1 X EX C lenSn (rLenSn X.K) := by
  intro ds vs H Q r w
  unfold lenSn at w
  split at w
  · rename_i w0 ks
    obtain ⟨v, rfl, a, xs, rfl, ha, hr⟩ := rd1 r
    have hl : xs.length = ks.length := by have := congrArg List.length hr.keys; simpa using this
    refine ⟨w0, a, xs, rfl, ha, by rw [hl]; exact hr.len, ?_⟩
    rw [hl]
    exact w _ H (Same.refl H) rn_int
  · exact w.elim
theorem collect_raw {P : Program} {w : World} {A : Around} {E : Value → Shared → Prop} {s : Shared} {d : Addr} {o : Obj} {es : Array DictEntry} {ep : Nat} {Q : List Value → Shared → Prop} (hh : A.handled = none) (hs : (d == sysModules) = false) (ho : s.heap.get? d = some o) (hx : o.ExactDict) (hdt : o.data = .dict es ep) (hz : es.size ≤ sizeLine)
    (hQ : ∀ (h' : Heap) (tk : Nat) (acc : Array Value), (∀ b o, s.heap.get? b = some o → h'.get? b = some o) → ItemsOf (fun i v => ∃ en : DictEntry, es[i]? = some en ∧ v = en.key) acc es.size → Q acc.toList { s with heap := h', toks := tk }) :
    wpAny (model P w) A (collect (.ref d)) Q E s := by
  unfold collect
  refine wpAny_bind (wpAny_runValue (codeAny_builtin F.entry_proto_collect ?_))
  rw [Around.under_plainId F.plain_proto_collect _]
  show wpAny _ A.in1 (newList [] >>= fun l => again (.builtin "list.__iadd__" ⟨[l, .ref d], []⟩)) _ _ s
  refine wpAny_bind (wpAny_newObj_type ?_)
  refine wpAny_pure ⟨plainId_quiet F.plain_list_iadd _, codeAny_builtin F.entry_list_iadd ?_⟩
  rw [Around.under_plainId F.plain_list_iadd _]
  show wpAny _ A.in1 (Builtin.List.listExtendWith (.ref s.heap.objs.size) (.ref d) (.ref s.heap.objs.size)) _ _ _
  have hS : (s.heap.push { cls := .type "list", data := .seq ([] : List Value).toArray }).get? s.heap.objs.size = some { cls := .type "list", data := .seq #[] 0 } := Heap.get?_push_size _ rfl
  have hne : s.heap.objs.size ≠ d := (Nat.ne_of_lt (Heap.lt_size ho)).symm
  refine wpAny_mono (PySem.W.kdl_extend (A := A) (R := fun rr s' => rr = .ok (.ret (.ref s.heap.objs.size)) ∧ ∃ (h' : Heap) (tk : Nat) (acc : Array Value) (c' : Nat), s' = { s with heap := h', toks := tk } ∧
      (∀ b o, s.heap.get? b = some o → h'.get? b = some o) ∧ h'.get? s.heap.objs.size = some { cls := .type "list", dict := none, data := .seq acc c', slots := #[] } ∧ ItemsOf (fun i v => ∃ en : DictEntry, es[i]? = some en ∧ v = en.key) acc es.size)
    (s := { s with heap := s.heap.push { cls := .type "list", data := .seq ([] : List Value).toArray } }) (kdl_raw hs hx hdt) hh (Heap.get?_push_of_some _ ho) _ hne hne _ 0 hS
    (fun h' tk acc c' hk e hi => ⟨rfl, h', tk, acc, c', rfl, fun b o q => hk b o (Nat.ne_of_lt (Heap.lt_size q)) (Heap.get?_push_of_some _ q), e, hi⟩) hz) (fun fin s' h => ?_) (fun e s' h => ?_)
  · cases fin with
    | done f =>
      obtain ⟨e, h', tk, acc, c', rfl, hk, hS', hi⟩ := h
      cases e
      show wpAny _ A (load s.heap.objs.size >>= _) _ _ _
      exact wpAny_bind (wpAny_load hS' (wpAny_pure (hQ h' tk acc hk hi)))
    | again c' =>
      refine ⟨h.1, codeAny_mono h.2 fun rr s'' hr' => ?_⟩
      obtain ⟨rfl, h', tk, acc, c', rfl, hk, hS', hi⟩ := hr'
      show wpAny _ A (load s.heap.objs.size >>= _) _ _ _
      exact wpAny_bind (wpAny_load hS' (wpAny_pure (hQ h' tk acc hk hi)))
  · exact absurd h.1 (by simp)
theorem code_tuple_raw {P : Program} {w : World} {A : Around} {E : Value → Shared → Prop} {s : Shared} {d : Addr} {o : Obj} {es : Array DictEntry} {ep : Nat} {Q₁ : Value → Shared → Prop} (hh : A.handled = none) (hs : (d == sysModules) = false) (ho : s.heap.get? d = some o) (hx : o.ExactDict) (hdt : o.data = .dict es ep) (hz : es.size ≤ sizeLine)
    (h : ∀ (h' : Heap) (tk : Nat) (acc : Array Value), (∀ b o, s.heap.get? b = some o → h'.get? b = some o) → ItemsOf (fun i v => ∃ en : DictEntry, es[i]? = some en ∧ v = en.key) acc es.size →
      Q₁ (.ref h'.objs.size) { s with heap := h'.push { cls := .type "tuple", data := .seq acc }, toks := tk }) :
    codeAny (model P w) A (.call (.builtin "tuple.__new__") ⟨[.type "tuple", .ref d], []⟩) (wants Q₁ E) s := by
  refine codeAny_of_tree ?_
  show wpAny _ A.in1 (do checkBuiltinCall "tuple.__new__" ⟨[.type "tuple", .ref d], []⟩; again (.builtin "tuple.__new__" ⟨[.type "tuple", .ref d], []⟩)) _ _ s
  refine wpAny_bind (wpAny_of_eq (F.newCall_tuple_1 _) (wpAny_pure ⟨plainId_quiet F.plain_tuple_new _, codeAny_builtin F.entry_tuple_new ?_⟩))
  rw [Around.under_plainId F.plain_tuple_new _]
  have hsub := sub_tuple_self
  have hinit := init_tuple_lookup
  have hmh := madeHere_tuple
  have hTI : s.TypeIs (.ref d) "dict" := ⟨_, ho, hx.1⟩
  have hh1 : A.in1.handled = none := hh
  wp_walk using wpAny_typeOf hTI, collect_raw (A := A.in1) hh1 hs ho hx hdt hz
  intro h' tk acc hk hacc
  show wpAny _ _ (Builtin.Tuple.tupleExact acc.toList.toArray >>= fun v => ret v) _ _ _
  unfold Builtin.Tuple.tupleExact
  refine wpAny_bind (wpAny_newObj_type ?_ (by show acc.toList.toArray.size ≤ sizeLine; simp only [Array.toArray_toList]; rw [hacc.1]; exact hz))
  refine wpAny_pure ?_
  have e : acc.toList.toArray = acc := by simp
  rw [e]
  exact h h' tk acc hk hacc
theorem call_tuple_raw {P : Program} {w : World} {A : Around} {E : Value → Shared → Prop} {s : Shared} {d : Addr} {o : Obj} {es : Array DictEntry} {ep : Nat} {Q : Value → Shared → Prop} (hh : A.handled = none) (hs : (d == sysModules) = false) (ho : s.heap.get? d = some o) (hx : o.ExactDict) (hdt : o.data = .dict es ep) (hz : es.size ≤ sizeLine)
    (hQ : ∀ (h' : Heap) (tk : Nat) (acc : Array Value), (∀ b o, s.heap.get? b = some o → h'.get? b = some o) → ItemsOf (fun i v => ∃ en : DictEntry, es[i]? = some en ∧ v = en.key) acc es.size →
      Q (.ref h'.objs.size) { s with heap := h'.push { cls := .type "tuple", data := .seq acc }, toks := tk }) :
    wpAny (model P w) A (call (.type "tuple") [.ref d]) Q E s := by
  refine callType_codes (Q₁ := fun obj s₁ => s₁.TypeIs obj "tuple" ∧ Q obj s₁) F.called_tuple (F.typeCall_tuple_1 _) F.entry_object_init
    (code_tuple_raw (A := A.in1) hh hs ho hx hdt hz fun h' tk acc hk hacc => ⟨⟨_, Heap.get?_push_size _ rfl, rfl⟩, hQ h' tk acc hk hacc⟩) fun obj s₁ h₁ => ?_
  exact ⟨h₁.1, F.args_object_init_2 obj _, object_init_meets F.called_tuple.init.lookup F.called_tuple.made (by decide) P w A.in1 _ s₁ ⟨h₁.1, rfl, h₁.2⟩⟩
def tupleSn : List D → R D
  | [.sn _ ks] => .ok (.t (.tup ks))
  | _ => .stuck
def rTupleSn : List V → Hp → VK → Prop := fun vs H Q => ∃ (w : World) (p : Addr) (xs : List (NestedKey × Addr)), vs = [.ref p] ∧ H p = some (SeenO w p xs) ∧ xs.length ≤ 16777216 ∧ ∀ q, H q = none → Q (.ref q) (upd H q (.tup (xs.map fun k => V.ref k.2)))
theorem keys_of_raw {w : World} {es : Array DictEntry} {ks : List (NestedKey × Addr)} {acc : Array Value} (he : es.toList = ks.map fun q => (⟨NestedKey.hash w q.1, .ref q.2, .bool true⟩ : DictEntry)) (it : ItemsOf (fun i v => ∃ en : DictEntry, es[i]? = some en ∧ v = en.key) acc es.size) : acc.toList = (ks.map fun x => x.2).map Value.ref := by
  have l1 : es.size = ks.length := by rw [← Array.length_toList, he, List.length_map]
  have ea : acc.toList = ks.map fun x => Value.ref x.2 := by
    have hl : acc.toList.length = ks.length := by rw [Array.length_toList, it.1]; exact l1
    apply List.ext_getElem?
    intro j
    rw [List.getElem?_map]
    cases hj : acc.toList[j]? with
    | none =>
      have h1 := List.getElem?_eq_none_iff.mp hj
      rw [List.getElem?_eq_none (by omega)]
      all_goals rfl
    | some v =>
      obtain ⟨en, hen, hv⟩ := it.2 j v (by rw [← Array.getElem?_toList]; exact hj)
      have qe : es[j]? = (ks[j]?).map fun q => (⟨NestedKey.hash w q.1, .ref q.2, .bool true⟩ : DictEntry) := by rw [← Array.getElem?_toList, he, List.getElem?_map]
      rw [hen] at qe
      cases hb : ks[j]? with
      | none => rw [hb] at qe; cases qe
      | some b =>
        rw [hb] at qe
        have e2 := Option.some.inj qe
        rw [hv, e2]
        all_goals rfl
  rw [ea, List.map_map]; all_goals rfl
theorem cr_tupleSn (hc : X.calm = true) : CallR X (.type "tuple") rTupleSn := by
  intro pins s σ H vs us Q I r h
  obtain ⟨w, d, ks, rfl, hd, hz, q⟩ := h
  obtain ⟨u, rfl, rx⟩ := r.one
  cases rx
  obtain ⟨hs, o, es, ep, ho, hx, hdt, he⟩ := seen_get I hd
  have l1 : es.size = ks.length := by rw [← Array.length_toList, he, List.length_map]
  refine call_tuple_raw (I.ok.hd hc) hs ho hx hdt (by rw [l1, sizeLine_eq]; exact hz) fun h' tk acc kp it => ?_
  have eb := keys_of_raw he it
  have ec : (ks.map fun k => V.ref k.2) = (ks.map fun x => x.2).map V.ref := by rw [List.map_map]; rfl
  have rv : Vals ((ks.map fun x => x.2).map V.ref) acc.toList := by rw [eb]; exact vals_refs _
  rw [ec] at q
  have hz2 : ((ks.map fun x => x.2).map V.ref).length ≤ sizeLine := by rw [List.length_map, List.length_map, sizeLine_eq]; omega
  have I1 : Inv X pins σ H { s with heap := h', toks := tk } := I.kept (t' := tk) kp
  refine ⟨.ref h'.objs.size, upd H h'.objs.size (.tup ((ks.map fun x => x.2).map V.ref)), I1.laid (t' := tk) (fun b o e => Heap.get?_push_of_some _ e) (Nat.le_refl _) ?_, rfl, q _ (I1.hok.fresh (Nat.le_refl _))⟩
  exact ⟨hz2, acc.toList, rv, by simpa using IsTup.new _ _⟩
theorem im_tupleSn : Impl1 X EX C tupleSn rTupleSn := by
  intro ds vs H Q r w
  unfold tupleSn at w
  split at w
  · rename_i w0 ks
    obtain ⟨v, rfl, a, xs, rfl, ha, hr⟩ := rd1 r
    refine ⟨w0, a, xs, rfl, ha, ?_, fun q hq => w _ _ (same_new hq _) (new_tup hq hr.vals)⟩
    have := congrArg List.length hr.keys
    have h2 := hr.len
    simp at this; omega
  · exact w.elim
end
end Pf

set_option Elab.async false
set_option linter.all false
set_option maxRecDepth 100000
set_option maxHeartbeats 4000000
namespace Pf
open PySem L2 PyProof.Rows
/-! ## sorted(set(ints)): a set of ints as the walk has it -/
theorem ints_len : ∀ {us : List Value} {xs : List Int}, IntsAre us xs → us.length = xs.length
  | _, _, .nil => rfl
  | _, _, .cons n t r => by simp [ints_len r]
theorem ints_at : ∀ {us : List Value} {xs : List Int}, IntsAre us xs → ∀ (i : Nat) (v : Value), us[i]? = some v → ∃ t, v = .int (xs.getD i 0) t
  | _, _, .nil, i, v, e => by simp at e
  | _, _, .cons n t r, 0, v, e => by simp at e; subst e; exact ⟨t, rfl⟩
  | _, _, .cons n t r, i + 1, v, e => by
    obtain ⟨t', h⟩ := ints_at r i v (by simpa using e)
    exact ⟨t', by simpa using h⟩
def ixO (e : Int × Value)  : Int := match e.2 with | .int k _ => k | _ => 0
def IxE (P : Program) (w : World) (e : Int × Value) : Prop := ∃ k tk, e.2 = Value.int k tk ∧ e.1 = (PySem.intKind P w).hash k
/-- the texts ks stand in the set at a -/
def IxS (P : Program) (w : World) (h : Heap) (a : Addr) (ks : List Int) : Prop :=
  ∃ o es ep t, h.get? a = some o ∧ o.ExactSet ∧ o.data = .set es ep t ∧ (∀ e ∈ es.toList, IxE P w e) ∧ (es.toList.map ixO).Perm ks ∧ ks.Nodup ∧ es.size < scanBound ∧ t.fits es.size = true ∧ Ris t.place.toList ∧ (w.params.followText "set-order" = true ∨ t.led = true)
section
variable {P : Program} {w : World} {h h' : Heap} {a : Addr} {ks : List Int}
theorem IxS.move (R : IxS P w h a ks) (k : ∀ o, h.get? a = some o → h'.get? a = some o) : IxS P w h' a ks := by
  obtain ⟨o, es, ep, t, ho, r⟩ := R
  exact ⟨o, es, ep, t, k o ho, r⟩
theorem IxS.size (R : IxS P w h a ks) : ks.length < scanBound := by
  obtain ⟨o, es, ep, t, _, _, _, _, pm, _, hb, _⟩ := R
  rw [← pm.length_eq, List.length_map, Array.length_toList]; exact hb
theorem ix_elems {l : List (Int × Value)} (g : ∀ e ∈ l, IxE P w e) : ElemsOf (PySem.intKind P w) l := fun e he => by
  obtain ⟨k, tk, h1, h2⟩ := g e he
  refine ⟨⟨k, ?_, h2⟩, ?_⟩
  · rw [h1]; exact intKind_is P w k tk
  · rw [h1]; rfl
theorem ix_is {e : Int × Value} (g : IxE P w e) (k : Int) : (PySem.intKind P w).is k e.2 = true ↔ ixO e = k := by
  obtain ⟨k0, tk, h1, _⟩ := g
  have q0 : (PySem.intKind P w).is k0 e.2 = true := by rw [h1]; exact intKind_is P w k0 tk
  have e0 : ixO e = k0 := by unfold ixO; rw [h1]
  rw [e0]
  exact ⟨fun q => (PySem.intKind P w).inj e.2 k0 k q0 q, fun q => q ▸ q0⟩
theorem ix_mem {l : List (Int × Value)} (g : ∀ e ∈ l, IxE P w e) (k : Int) : k ∈ l.map ixO ↔ ∃ e ∈ l, (PySem.intKind P w).is k e.2 = true := by
  rw [List.mem_map]
  exact ⟨fun ⟨e, he, q⟩ => ⟨e, he, (ix_is (g e he) k).2 q⟩, fun ⟨e, he, q⟩ => ⟨e, he, (ix_is (g e he) k).1 q⟩⟩
end
section
variable {P : Program} {w : World} {A : Around} {E : Value → Shared → Prop} {s : Shared} {a : Addr} {ks : List Int}
theorem ix_tail {g : Bool → Sem Unit} (hg : ∀ (b : Bool) (s₁ : Shared) (Q' : Unit → Shared → Prop), Q' () s₁ → wpAny (model P w) A (g b) Q' E s₁) {o : Obj} {es : Array (Int × Value)} {ep : Nat} {t : SetTable} (ho : s.heap.get? a = some o) (hex : o.ExactSet) (hd : o.data = .set es ep t)
    {es1 : Array (Int × Value)} {t2 : SetTable} (g1 : ∀ e ∈ es1.toList, IxE P w e) (p1 : (es1.toList.map ixO).Perm ks) (nd : ks.Nodup) (hb1 : es1.size < scanBound) (hf2 : t2.fits es1.size = true) (hr : Ris t2.place.toList) (hl : w.params.followText "set-order" = true ∨ t2.led = true) {dm : Bool} {R : Option Bool → Shared → Prop}
    (hR : ∀ h', Heap.SameBut a s.heap h' → IxS P w h' a ks → R (some true) { s with heap := h' }) :
    wpAny (model P w) A (do
        storeSet a es1 t2
        if (!dm && t2.tooFull) = true then do
            g (relayAll t2 es1 (SetTable.grown es1.size)).2.2
            storeSet a (relayAll t2 es1 (SetTable.grown es1.size)).1 (relayAll t2 es1 (SetTable.grown es1.size)).2.1
            pure (some true)
          else pure (some true)) R E s := by
  refine wpAny_bind (wpAny_storeSet_of ho hd ?_ (fits_of_scanBound hb1))
  have u1 := store_at (es' := es1) (t' := t2) ho hd
  have b1 := Heap.SameBut.update s.heap a (Obj.putSet es1 t2)
  split
  · have pm := relayAll_perm t2 es1 (SetTable.grown es1.size)
    have f3 := relayAll_fits t2 es1 (SetTable.grown es1.size)
    have r3 := relayAll_ris t2 es1 (SetTable.grown es1.size) 
    have l3 := relayAll_led t2 es1 (SetTable.grown es1.size)
    generalize relayAll t2 es1 (SetTable.grown es1.size) = Z at pm f3 r3 l3 ⊢
    obtain ⟨es2, t3, gv⟩ := Z
    dsimp only at pm f3 r3 l3 ⊢
    have b2 : es2.size < scanBound := by
      have q := pm.length_eq
      rw [Array.length_toList, Array.length_toList] at q
      rw [q]; exact hb1
    refine wpAny_bind (hg _ _ _ (wpAny_bind (wpAny_storeSet_of u1 rfl ?_ (fits_of_scanBound b2))))
    have u2 := store_at (es' := es2) (t' := t3) u1 rfl
    exact wpAny_pure (hR _ (b1.trans (Heap.SameBut.update _ a _)) ⟨_, es2, _, t3, u2, hex, rfl, fun e he => g1 e (pm.mem_iff.mp he), (pm.map ixO).trans p1, nd, b2, f3, r3, hl.imp id fun z => l3.trans z⟩)
  · exact wpAny_pure (hR _ b1 ⟨_, es1, _, t2, u1, hex, rfl, g1, p1, nd, hb1, hf2, hr, hl⟩)
theorem ix_add {k : Int} {tk : Tok} {Q : Bool → Shared → Prop} (R : IxS P w s.heap a ks) (room : ks.length + 1 < scanBound)
    (hQ : ∀ h' b, Heap.SameBut a s.heap h' → IxS P w h' a (if k ∈ ks then ks else k :: ks) → Q b { s with heap := h' }) :
    wpAny (model P w) A (setAddHashed a (.int k tk) ((PySem.intKind P w).hash k)) Q E s := by
  have R0 := R
  obtain ⟨o, es, ep, t, ho, hex, hd, g, pm0, nd, hb, hf, hr, hl⟩ := R
  have hkey : (PySem.intKind P w).is k (.int k tk) = true := intKind_is P w k tk
  have hsc : (Value.int k tk).scannable = true := rfl
  have hel : ElemsOf (PySem.intKind P w) es.toList := ix_elems g
  have hmem : k ∈ ks ↔ ∃ e ∈ es.toList, (PySem.intKind P w).is k e.2 = true := by rw [← pm0.mem_iff]; exact ix_mem g k
  unfold setAddHashed setAddHashedIn
  refine wpAny_holding (wpAny_bind (wpAny_setState_of ho hd hf ?_))
  dsimp only
  rw [byScan_of hsc hb hel, if_pos rfl]
  unfold setAddByScan
  refine wpAny_bind (wpAny_bind (wpAny_rule (wpAny_bind (wpAny_setScan_of hkey ho hd hf hel ?_))))
  cases hfi : List.findIdx? (fun e => (PySem.intKind P w).is k e.2) es.toList with
  | some j =>
    dsimp only
    obtain ⟨hj, pj, _⟩ := List.findIdx?_eq_some_iff_getElem.mp hfi
    have hin : k ∈ ks := hmem.2 ⟨es.toList[j], List.getElem_mem hj, pj⟩
    have q := fun b => hQ s.heap b (Heap.SameBut.refl a s.heap)
    rw [if_pos hin] at q
    exact wpAny_pure (wpAny_pure (q _ R0))
  | none =>
    dsimp only
    have hout : ¬ k ∈ ks := fun z => by
      obtain ⟨e, he, q⟩ := hmem.1 z
      have c := List.findIdx?_eq_none_iff.mp hfi e he
      rw [q] at c; cases c
    have hgw : ∀ (b : Bool) {s₁ : Shared} {Q' : Unit → Shared → Prop}, Q' () s₁ → wpAny (model P w) A (match b with | true => rule "set.scan.the-table-gave-way" | false => pure ()) Q' E s₁ := fun b s₁ Q' q => by
      cases b
      · exact wpAny_pure q
      · exact wpAny_rule q
    have pm := layNew_perm t es ((PySem.intKind P w).hash k) (.int k tk)
    have f1 := layNew_fits t es ((PySem.intKind P w).hash k) (.int k tk)
    have r1 := layNew_ris t es ((PySem.intKind P w).hash k) (.int k tk) hr
    have l1 := layNew_led t es ((PySem.intKind P w).hash k) (.int k tk)
    generalize layNew t es ((PySem.intKind P w).hash k) (.int k tk) = Z at pm f1 r1 l1 ⊢
    obtain ⟨es1, t1, dm, gv⟩ := Z
    dsimp only at pm f1 r1 l1 ⊢
    rw [Array.toList_push] at pm
    have pc : es1.toList.Perm (((PySem.intKind P w).hash k, Value.int k tk) :: es.toList) := pm.trans (List.perm_append_singleton _ _)
    have pk : (es1.toList.map ixO).Perm (k :: ks) := (pc.map ixO).trans (pm0.cons k)
    have g1 : ∀ e ∈ es1.toList, IxE P w e := fun e he => (List.mem_cons.mp (pc.mem_iff.mp he)).elim (fun z => z ▸ ⟨k, tk, rfl, rfl⟩) (g e)
    have b1 : es1.size < scanBound := by
      have q := pk.length_eq
      rw [List.length_map, Array.length_toList, List.length_cons] at q
      rw [q]; exact room
    have led : w.params.followText "set-order" = true ∨ t1.led = true := hl.imp id fun z => l1.trans z
    have fin : ∀ h' b, Heap.SameBut a s.heap h' → IxS P w h' a (k :: ks) → Q b { s with heap := h' } := fun h' b sb r => hQ h' b sb (by rw [if_neg hout]; exact r)
    have nd1 := List.nodup_cons.mpr ⟨hout, nd⟩
    refine wpAny_bind (hgw _ ?_)
    split
    · refine wpAny_bind ?_
      rw [hashByValue_scannable 8 hsc]
      refine wpAny_pure (ix_tail ?_ ho hex hd g1 pk nd1 b1 ?_ ?_ ?_ ?_)
      · intro b s₁ Q' q; cases b <;> first | exact wpAny_pure q | exact wpAny_rule q
      · first | (split <;> first | exact f1 | exact SetTable.fits_plain_off f1) | exact f1
      · first | (split <;> exact r1) | exact r1
      · first | (split <;> exact led) | exact led
      · intro h' sb r; dsimp only; exact wpAny_pure (fin h' _ sb r)
    · refine wpAny_bind (wpAny_pure ?_)
      rw [if_pos rfl]
      refine ix_tail ?_ ho hex hd g1 pk nd1 b1 f1 r1 led ?_
      · intro b s₁ Q' q; cases b <;> first | exact wpAny_pure q | exact wpAny_rule q
      · intro h' sb r; dsimp only; exact wpAny_pure (fin h' _ sb r)
end
/-- what the first of xs put one by one leave -/
def putI : List Int → List Int → List Int
  | ks, [] => ks
  | ks, x :: r => putI (if x ∈ ks then ks else x :: ks) r
theorem putI_app : ∀ (xs ks : List Int) (x : Int), putI ks (xs ++ [x]) = if x ∈ putI ks xs then putI ks xs else x :: putI ks xs
  | [], ks, x => rfl
  | y :: r, ks, x => putI_app r _ x
theorem putI_len : ∀ (xs ks : List Int), (putI ks xs).length ≤ ks.length + xs.length
  | [], ks => Nat.le_refl _
  | x :: r, ks => by
    have := putI_len r (if x ∈ ks then ks else x :: ks)
    unfold putI
    refine Nat.le_trans this ?_
    split <;> simp <;> omega
theorem putI_mem (s : Int) : ∀ (xs ks : List Int), s ∈ putI ks xs ↔ s ∈ ks ∨ s ∈ xs
  | [], ks => by simp [putI]
  | x :: r, ks => by
    unfold putI
    rw [putI_mem s r]
    by_cases h : x ∈ ks
    · rw [if_pos h]; simp only [List.mem_cons]
      exact ⟨fun q => q.elim .inl fun q => .inr (.inr q), fun q => q.elim .inl fun q => q.elim (fun e => .inl (e ▸ h)) .inr⟩
    · rw [if_neg h]; simp only [List.mem_cons]
      exact ⟨fun q => q.elim (fun q => q.elim (fun e => .inr (.inl e)) .inl) fun q => .inr (.inr q), fun q => q.elim (fun q => .inl (.inr q)) fun q => q.elim (fun e => .inl (.inl e)) .inr⟩
theorem putI_nodup : ∀ (xs ks : List Int), ks.Nodup → (putI ks xs).Nodup
  | [], ks, h => h
  | x :: r, ks, h => by
    unfold putI
    refine putI_nodup r _ ?_
    split
    · exact h
    · rename_i q; exact List.nodup_cons.mpr ⟨q, h⟩
section
variable {P : Program} {w : World} {A : Around} {E : Value → Shared → Prop} {s : Shared}
theorem ix_loop {I : Addr} {fp wr : List Addr} {G : Array GenState → Array GenState → Prop} {n : Nat} {Pv : Nat → Value → Prop} {St : Nat → Shared → Prop} {R : Result → Shared → Prop}
    (W : WalksS P w A.in1 I fp wr G n Pv St) (S : Addr) (hSf : S ∉ fp) (xs : List Int) (hn : n = xs.length) (hb : xs.length + 1 < scanBound) (hval : ∀ i v, Pv i v → ∃ k t, xs[i]? = some k ∧ v = .int k t) :
    ∀ (k i : Nat) (s : Shared), n - i = k → i ≤ n → St i s → IxS P w s.heap S (putI [] (xs.take i)) →
      (∀ s', Moved (S :: wr) G s s' → IxS P w s'.heap S (putI [] xs) → R (.ok (.ret .none)) s') → codeAny (model P w) A (.builtin "set.update.loop" ⟨[.ref S, .ref I], []⟩) R s := by
  have hSw : S ∉ wr := fun h => hSf (W.sub _ h)
  have hsub : ∀ b ∈ wr, b ∈ S :: wr := fun b hb => List.mem_cons_of_mem _ hb
  intro k
  induction k with
  | zero =>
    intro i s hk' hi hst hS hR
    have hin : i = n := by omega
    subst hin
    refine codeAny_builtin F.entry_set_update_loop ?_
    rw [Around.under_plainId F.plain_set_update_loop _]
    refine wpAny_bind (m := pyNext (.ref I)) (W.done s _ _ hst fun s' hm => ?_)
    rw [List.take_of_length_le (by omega)] at hS
    exact wpAny_pure (hR s' (hm.mono hsub) (hS.move fun o e => hm.heap S o hSw e))
  | succ k ih =>
    intro i s hk' hi hst hS hR
    have hlt : i < n := by omega
    refine codeAny_builtin F.entry_set_update_loop ?_
    rw [Around.under_plainId F.plain_set_update_loop _]
    refine wpAny_bind (m := pyNext (.ref I)) (W.item i s _ _ hlt hst fun v s' hP hst' hm => ?_)
    obtain ⟨z, t, hz, rfl⟩ := hval i v hP
    have hS' : IxS P w s'.heap S (putI [] (xs.take i)) := hS.move fun o e => hm.heap S o hSw e
    refine wpAny_bind (m := holding [Value.int z t] (setAdd S (.int z t))) (wpAny_holding ?_)
    unfold setAdd
    refine wpAny_holding (wpAny_bind ((PySem.intKind P w).pyHash (k := z) (intKind_is _ _ _ _) ?_))
    have hroom : (putI [] (xs.take i)).length + 1 < scanBound := by
      have q := putI_len (xs.take i) []
      rw [List.length_take, List.length_nil] at q
      omega
    refine ix_add (s := { s' with toks := s'.toks + 1 }) hS' hroom fun h' b hsb hS2 => ?_
    rw [← putI_app] at hS2
    have hS3 : IxS P w h' S (putI [] (xs.take (i + 1))) := by
      rw [List.take_add_one, hz]; exact hS2
    refine wpAny_pure ⟨plainId_quiet F.plain_set_update_loop _, ih (i + 1) _ (by omega) hlt (W.frame _ s' _ _ hst' (Nat.le_succ _) fun b hb o e => ?_) hS3 fun s'' hm'' hS'' => ?_⟩
    · rw [hsb.2 b (fun h : b = S => hSf (h ▸ hb))]; exact e
    · refine hR s'' (Moved.trans W.gtrans ((hm.mono hsub).then_heap (Nat.le_succ _) fun b o hb e => ?_) hm'') hS''
      rw [hsb.2 b (fun h : b = S => hb (h ▸ List.mem_cons_self))]; exact e
abbrev freI (w : World) : Obj := { cls := .type "set", dict := none, data := .set #[] 0 (.fresh 0 0 (!w.params.followText "set-order")) }
theorem ix_fresh {h : Heap} {a : Addr} (ho : h.get? a = some { cls := .type "set", dict := none, data := .set #[] 0 (.fresh 0 0 (!w.params.followText "set-order")) }) : IxS P w h a [] :=
  ⟨_, #[], 0, _, ho, ⟨rfl, rfl, rfl⟩, rfl, (fun e he => by simp at he), List.Perm.refl _, List.nodup_nil, (by decide), (by rfl), List.Pairwise.nil, by
    show _ ∨ (!w.params.followText "set-order") = true
    cases w.params.followText "set-order"
    · exact .inr rfl
    · exact .inl rfl⟩
theorem ix_at {us : List Value} {xs : List Int} (h : IntsAre us xs) (i : Nat) (v : Value) (e : us[i]? = some v) : ∃ k t, xs[i]? = some k ∧ v = .int k t := by
  obtain ⟨t, q⟩ := ints_at h i v e
  have hl := ints_len h
  have hi : i < xs.length := by rw [← hl]; exact (List.getElem?_eq_some_iff.mp e).1
  refine ⟨xs[i], t, List.getElem?_eq_getElem hi, ?_⟩
  rw [q, List.getD_eq_getElem?_getD, List.getElem?_eq_getElem hi]; rfl
set_option maxHeartbeats 3200000 in
theorem ix_of_list {l : Addr} {items : Array Value} {xs : List Int} {Q : Value → Shared → Prop} (hh : A.handled = none) (hl : s.heap.IsList l items) (hit : IntsAre items.toList xs) (hb : xs.length + 1 < scanBound)
    (h : ∀ (h' : Heap) (tk : Nat), IxS P w h' s.heap.objs.size (putI [] xs) → (∀ b o, s.heap.get? b = some o → h'.get? b = some o) → Q (.ref s.heap.objs.size) { s with heap := h', toks := tk }) :
    wpAny (model P w) A (call (.type "set") [.ref l]) Q E s := by
  have hsz : items.size = xs.length := by
    have q := ints_len hit
    rwa [Array.length_toList] at q
  obtain ⟨c, tl, hmro⟩ := F.called_set.mro
  have hmade := F.called_set.made
  have hsub := F.called_set.sub
  refine wpAny_call (codeAny_of_tree ?_)
  show wpAny _ _ (callAny (.type "set") _) _ _ _
  refine wpAny_pure ⟨Code.quiet_builtin _ (by decide +kernel), codeAny_builtin F.entry_type_call ?_⟩
  rw [Around.under_plain (weight_type_call_type "set" [.ref l] []) rfl]
  have h1 := F.called_set.notType
  have h2 := F.called_set.canCreate
  have hct := F.typeCall_set_1 (.ref l)
  repeat (any_goals (first | assumption | wp_step))
  generalize hO : ({ cls := .type "set", dict := none, data := .set #[] 0 (.fresh 0 0 (!w.params.followText "set-order")) } : Obj) = O
  have hOc : O.cls = .type "set" := by rw [← hO]
  refine codeAny_mono (code_set_led1 (.ref l) (E := E) (Q₁ := fun obj s₁ => obj = .ref s.heap.objs.size ∧ s₁ = { s with heap := s.heap.push O }) ⟨rfl, by rw [hO]⟩) fun r s₁ hr => ?_
  cases r with
  | error e => exact hr
  | ok fl =>
    cases fl with
    | ret obj =>
      obtain ⟨rfl, rfl⟩ := hr
      have hS : (s.heap.push O).get? s.heap.objs.size = some O := Heap.get?_push_size _ (by rw [← hO]; rfl)
      have hT : Shared.TypeIs { s with heap := s.heap.push O } (.ref s.heap.objs.size) "set" := ⟨_, hS, hOc⟩
      have hli := F.called_set.init.lookup
      have hbi := F.called_set.init.bind (.ref s.heap.objs.size)
      repeat (any_goals (first | assumption | wp_step))
      refine codeAny_mono (codeAny_call_builtin (R := wants (fun r s₂ => r = .none ∧ ∃ h' tk, s₂ = { s with heap := h', toks := tk } ∧ IxS P w h' s.heap.objs.size (putI [] xs) ∧ (∀ b o, s.heap.get? b = some o → h'.get? b = some o)) E) F.called_set.init.plain F.entry_set_init (check_set_init_1 hT ?_)) fun r₂ s₂ hr₂ => ?_
      · subst hO
        obtain ⟨ol, hol, hcl, nl, hdl⟩ := hl
        obtain ⟨ocls, odict, odata, oslots⟩ := ol
        simp only at hcl hdl
        subst hcl; subst hdl
        have hol' : (s.heap.push (freI w)).get? l = some { cls := .type "list", dict := odict, data := .seq items nl, slots := oslots } := Heap.get?_push_of_some _ hol
        have hsls := F.sub_list_set
        have hslf := F.sub_list_frozenset
        have hne : (Value.type "list" == Value.type "dict") = false := by decide
        have hl1 : (s.heap.push (freI w)).IsList l items := ⟨_, hol', rfl, nl, rfl⟩
        unfold Builtin.«set.__init__» noKeywords Builtin.Frozenset.updateFrom
        generalize hPI : pyIter = PI
        wp_walk
        subst hPI
        refine wpAny_pyIter_list hl1 ?_
        refine wpAny_bind (wpAny_runValue ?_)
        have hlS : l < s.heap.objs.size := Heap.lt_size hol
        have hh3 : A.in1.in1.in1.handled = none := by simp [hh]
        have hz : (s.heap.push (freI w)).objs.size = s.heap.objs.size + 1 := Heap.size_push ..
        have hneI : l ≠ (s.heap.push (freI w)).objs.size := by rw [hz]; exact Nat.ne_of_lt (Nat.lt_succ_of_lt hlS)
        have hSf : s.heap.objs.size ∉ [(s.heap.push (freI w)).objs.size, l] := by
          rw [hz]; simp only [List.mem_cons, List.not_mem_nil, or_false, not_or]; exact ⟨Nat.ne_of_lt (Nat.lt_succ_self _), Nat.ne_of_gt hlS⟩
        refine ix_loop ((Walks.list hh3 _ l hneI items).toS) s.heap.objs.size hSf xs hsz hb (fun i v hv => ix_at hit i v (by rw [Array.getElem?_toList]; exact hv)) (items.size - 0) 0 _ (by omega) (Nat.zero_le _)
          ⟨⟨_, Heap.get?_push_size _ rfl, rfl, rfl⟩, (hl1.push _)⟩ ?hS0 ?hR
        case hS0 =>
          exact ix_fresh (Heap.get?_push_of_some _ hS)
        case hR =>
          intro s' hm hS'
          obtain ⟨h', g2, d', tk', os'⟩ := s'
          have eg : g2 = s.gens := hm.gens
          have ed : d' = s.drawn := hm.drawn
          have eo : os' = s.os := hm.os
          subst eg ed eo
          show wpAny _ _ _ _ _ _
          refine wpAny_pure ?_
          show wpAny _ _ (ret Value.none) _ _ _
          refine wpAny_pure ⟨rfl, h', tk', rfl, hS', fun b o e => ?_⟩
          have hb0 : b < s.heap.objs.size := Heap.lt_size e
          refine hm.heap b o ?_ (Heap.get?_push_of_some _ (Heap.get?_push_of_some _ e))
          rw [hz]; simp only [List.mem_cons, List.not_mem_nil, or_false, not_or]; exact ⟨Nat.ne_of_lt hb0, Nat.ne_of_lt (Nat.lt_succ_of_lt hb0)⟩
      · cases r₂ with
        | error e => exact hr₂
        | ok fl₂ =>
          cases fl₂ with
          | ret r =>
            obtain ⟨rfl, h', tk, rfl, hS', hk'⟩ := hr₂
            repeat (any_goals (first | assumption | wp_step))
            exact h _ _ hS' hk'
          | _ => exact hr₂.elim
    | _ => exact hr.elim
end

/-! ### sorted of it -/
section
variable {P : Program} {w : World} {A : Around} {E : Value → Shared → Prop} {s : Shared} {a : Addr}
theorem ix_ints : ∀ (l : List (Int × Value)), (∀ e ∈ l, IxE P w e) → ∀ v ∈ l.map (·.2), ∃ x t, v = Value.int x t := fun l g v hv => by
  obtain ⟨e, he, rfl⟩ := List.mem_map.mp hv
  obtain ⟨k, tk, h1, _⟩ := g e he
  exact ⟨k, tk, h1⟩
theorem ix_sorted {ks : List Int} {Q : Value → Shared → Prop} (R : IxS P w s.heap a ks) (hh : A.handled = none)
    (hQ : ∀ s' p (out : Array Value) (c : Nat) (ys : List Int), (∀ b o, s.heap.get? b = some o → s'.heap.get? b = some o) → s'.gens = s.gens → s'.os = s.os → s.heap.objs.size ≤ p →
      s'.heap.get? p = some (seqObj "list" out c) → IntsAre out.toList ys → ys.Perm ks → ys.Pairwise (· ≤ ·) → Q (.ref p) s') :
    wpAny (model P w) A (call (.builtin "sorted") [.ref a]) Q E s := by
  have hks := R.size
  obtain ⟨o, es, ep, t, ho, hex, hd, g, pm0, nd, hb, hf, hr, hl⟩ := R
  refine Calls.call_function_entry kind_sorted plain_sorted entry_sorted (args_sorted1 _) ?_
  unfold Builtin.«sorted»
  refine wpAny_bind (m := checkCount "sorted" 1 1 _) (wpAny_pure (wpAny_bind (collect_set (A := A.in1) hh ⟨o, ho, hex.1, hd⟩ hf hb hr hl fun s1 vs k1 hz g1 o1 pm => ?_)))
  have hS : IntsAre vs (vs.map SrtO.iv) := SrtO.ints_iv fun v hv => ix_ints _ g v (pm.mem_iff.mp hv)
  have e1 : es.toList.map ixO = (es.toList.map (·.2)).map SrtO.iv := by
    rw [List.map_map]
    apply List.map_congr_left
    intro e he
    obtain ⟨k, tk, h1, _⟩ := g e he
    simp only [ixO, Function.comp, h1, SrtO.iv]
  have pk : (vs.map SrtO.iv).Perm ks := (pm.map SrtO.iv).trans (e1 ▸ pm0)
  have hvl : vs.length = ks.length := by rw [← pk.length_eq, List.length_map]
  have hsz : vs.length ≤ sizeLine := by rw [hvl, sizeLine_eq]; unfold scanBound at hks; omega
  refine wpAny_bind (wpAny_newList ?_ hsz)
  have hoL : (s1.heap.push (seqObj "list" vs.toArray 0)).get? s1.heap.objs.size = some (seqObj "list" vs.toArray 0) := Heap.get?_push_size _ rfl
  refine wpAny_bind (wpAny_holding (wpAny_call_entry slot_list_sort ⟨_, hoL, rfl⟩ entry_list_sort (SrtO.list_sort_ord SrtO.swo_int hoL hsz (fun h2 => SrtO.ints_sortable hS h2) fun out a1 a2 => ⟨_, rfl, ?_⟩) (args_list_sort _)))
  obtain ⟨k1', k2', k3'⟩ := SrtO.ints_out hS a1 a2
  obtain ⟨c, hc⟩ := sortedHeap_at (vs := vs) (out := out.toArray) hoL
  refine wpAny_pure ⟨_, rfl, hQ _ s1.heap.objs.size _ c (out.map SrtO.iv) (fun b u e => ?_) g1 o1 hz hc (by simpa using k1') (k2'.trans pk) k3'⟩
  have q := k1 b u e
  have hlt := Heap.lt_size q
  show (sortedHeap (s1.heap.push (seqObj "list" vs.toArray 0)) s1.heap.objs.size vs _).get? b = some u
  rw [sortedHeap_old (Nat.ne_of_lt hlt) (by rw [size_push']; exact Nat.lt_succ_of_lt hlt)]
  exact Heap.get?_push_of_some _ q
end
/-! ### over the layer -/
def IxO (P : Program) (w : World) (a : Addr) (ks : List Int) : HO := .ext fun h => IxS P w h a ks
section
variable {X : Cx} {EX : XK} {C : Nat → Addr}
theorem ixO_new {P : Program} {w : World} {H : Hp} {h : Heap} {a : Addr} {ks : List Int} (R : IxS P w h a ks) : ObjOk P w H h a (IxO P w a ks) := by
  have ⟨o, _, _, _, ho, _⟩ := R
  exact ⟨R, ⟨o, ho⟩, fun h1 h2 p k => IxS.move p k⟩
theorem ixO_get {pins : List (Addr × Obj)} {σ : L2.St} {H : Hp} {s : Shared} {a : Addr} {ks : List Int} (I : Inv X pins σ H s) (ha : H a = some (IxO X.prog X.w a ks)) : IxS X.prog X.w s.heap a ks := (I.hok a _ ha).1
def rSetI (K : PySem.W.Frag) (P : Program) (w : World) : List V → Hp → VK → Prop := fun vs H Q => ∃ (l : Addr) (xs : List Int), vs = [.ref l] ∧ SqL K H l (xs.map V.int) ∧ xs.length < 4000 ∧ ∀ p, H p = none → Q (.ref p) (upd H p (IxO P w p (putI [] xs)))
theorem cr_setI (hc : X.calm = true) : CallR X (.type "set") (rSetI X.K X.prog X.w) := by
  intro pins s σ H vs us Q I r h
  obtain ⟨l, xs, rfl, hs, hlen, q⟩ := h
  obtain ⟨its, rv, hl, _⟩ := I.list hs
  rw [Vals.ref1 r]
  refine ix_of_list (I.ok.hd hc) hl.isList rv.ints (by unfold scanBound; omega) fun h' tk new k => ?_
  exact ⟨.ref _, upd H s.heap.objs.size (IxO X.prog X.w s.heap.objs.size (putI [] xs)), I.laid (t' := tk) (fun b u e => k b u e) (Nat.le_refl _) (ixO_new new), rfl, q _ (I.hok.fresh (Nat.le_refl _))⟩
def rSortIs (P : Program) (w : World) : List V → Hp → VK → Prop := fun vs H Q => ∃ (a : Addr) (ks : List Int), vs = [V.ref a] ∧ H a = some (IxO P w a ks) ∧
  ∀ (ys : List Int) (p : Addr), ys.Perm ks → ys.Pairwise (· ≤ ·) → H p = none → Q (.ref p) (upd H p (.lst (ys.map V.int)))
theorem cr_sortIs (hc : X.calm = true) : CallR X (.builtin "sorted") (rSortIs X.prog X.w) := by
  intro pins s σ H vs us Q I r h
  obtain ⟨a, ks, rfl, ha, q⟩ := h
  have R := ixO_get I ha
  rw [Vals.ref1 r]
  refine ix_sorted R (I.ok.hd hc) fun s' p out c ys k g o hp hg hi pm hs => ?_
  have hks := R.size
  have hlen : (ys.map V.int).length ≤ sizeLine := by rw [List.length_map, pm.length_eq, sizeLine_eq]; unfold scanBound at hks; omega
  have hn : H p = none := I.hok.fresh hp
  have J : Inv X pins σ (upd H p (.lst (ys.map V.int))) { s with heap := s'.heap, gens := s'.gens, drawn := s'.drawn, toks := s'.toks } :=
    I.call (ch := []) (Un.laid k hp hn) (I.hok.laid k hp ⟨hlen, out.toList, c, vals_of_ints hi, hg⟩) (by rw [g]; exact I.bare) (fun _ z => nomatch z)
  have e : s' = { s with heap := s'.heap, gens := s'.gens, drawn := s'.drawn, toks := s'.toks } := by
    cases s'; cases s; cases o; rfl
  rw [e]
  exact ⟨.ref p, _, J, rfl, q ys p pm hs hn⟩
end
end Pf

set_option Elab.async false
set_option linter.all false
set_option maxRecDepth 100000
set_option maxHeartbeats 4000000
namespace Pf
open PySem L2 PyProof.Rows
section
variable {X : Cx} {EX : XK} {C : Nat → Addr} {a : Expr} {f g : Ev → R D} {pos : Pos}
/-! ### sorted(set(ints)) -/
def isetL (xs : List Int) : List Int := (putI [] xs).mergeSort (fun a b => decide (a ≤ b))
theorem asInts_T {ts : List T} {xs : List Int} (h : asInts ts = some xs) : ts = xs.map T.int := asInts_eq h
theorem iset_uniq {xs ys : List Int} (p : ys.Perm (putI [] xs)) (s : ys.Pairwise (· ≤ ·)) : ys = isetL xs := by
  have h1 : (isetL xs).Perm (putI [] xs) := List.mergeSort_perm _ _
  have h2 : (isetL xs).Pairwise (· ≤ ·) := by
    have := List.pairwise_mergeSort (le := fun a b : Int => decide (a ≤ b)) (fun a b c h1 h2 => by simp only [decide_eq_true_eq] at *; omega) (fun a b => by simp only [Bool.or_eq_true, decide_eq_true_eq]; omega) (putI [] xs)
    exact this.imp fun {a b} h => by simpa using h
  exact (p.trans h1.symm).eq_of_pairwise (fun a b _ _ h1 h2 => by omega) s h2
def issetD (d : D) : R D := match d with
  | .lst ts => match asInts ts with
    | some xs => if xs.length < 4000 then .ok (.lst ((isetL xs).map T.int)) else .stuck
    | none => .stuck
  | _ => .stuck
theorem sn_isset (hc : X.calm = true) (ha : SE X EX C a f) (hm : X.mg "sorted" = none) (hm2 : X.mg "set" = none) {p p2 q : Pos} (hg : Gl X "sorted" := by rfl) (hg2 : Gl X "set" := by rfl)
    (he : starEach (.Call (.Name "set" p2) [a] [] q :: []) X.env = (false, eval (.Call (.Name "set" p2) [a] [] q) X.env) :: starEach [] X.env := by rfl) (hpl : (backTo pos (starEach [] X.env)).any (·.1) = false := by rfl)
    (he2 : starEach (a :: []) X.env = (false, eval a X.env) :: starEach [] X.env := by rfl) (hpl2 : (backTo q (starEach [] X.env)).any (·.1) = false := by rfl) :
    SN X EX C (.Call (.Name "sorted" p) [.Call (.Name "set" p2) [a] [] q] [] pos) (u1 issetD f) := by
  obtain ⟨te, pa, qa⟩ := ha
  have h1 := pe_callTy (p := p2) (cr_setI hc) hg2 hm2 (by decide +kernel) (pa_cons pa pa_nil he2) (by decide) (by decide) he2 hpl2
  have h2 := pe_callB (p := p) (cr_sortIs hc) hg hm (by decide +kernel) (pa_cons h1 pa_nil he) (by decide) (by decide) he hpl
  refine ⟨_, h2, fun F σ H ρ Q er w => ?_⟩
  refine qa F σ H ρ _ er (w.bind.imp fun d _ k v H1 s1 r1 => ?_)
  unfold issetD at k
  split at k
  · split at k
    · rename_i ts xs hx
      split at k
      · rename_i hl
        obtain ⟨l, ws, rfl, hl2, rs⟩ := r1
        rw [asInts_T hx] at rs
        rw [rs.ints] at hl2
        refine ⟨l, xs, rfl, SqL.of hl2, hl, fun p hp => ?_⟩
        refine ⟨p, putI [] xs, rfl, by unfold upd; simp, fun ys p2 y1 y2 hp2 => ?_⟩
        rw [iset_uniq y1 y2]
        have s2 := s1.trans (same_new hp (IxO X.prog X.w p (putI [] xs)))
        exact k _ _ (s2.trans (same_new hp2 _)) ((new_lst hp2 (RTs.ofInts _)).less s2)
      · exact k.elim
    · exact k.elim
  · exact k.elim
/-! ### min, max with default -/
def minI (d : Int) : List Int → Int
  | [] => d
  | y :: ys => PySem.W.minOf y ys
def maxI (d : Int) : List Int → Int
  | [] => d
  | y :: ys => PySem.W.maxOf y ys
theorem ints_reads {h : Heap} : ∀ {us : List Value} {ns : List Int}, IntsAre us ns → ReadsAll h us (ns.map PySem.W.Datum.toD) []
  | _, _, .nil => .nil
  | _, _, .cons n t r => by
    have := ReadsAll.cons (Reads.int n t) (ints_reads (h := h) r)
    exact this
theorem int_held {h : Heap} {v : Value} {z : Int} (q : PySem.W.Holds h v z) : ∃ t, v = .int z t := by
  obtain ⟨as, r⟩ := q
  have r' : Reads h v (.int z) as := r
  cases r' with
  | int i t => exact ⟨t, rfl⟩
def rMinDef (K : PySem.W.Frag) (m : Int → List Int → Int) : List V → List V → Hp → VK → Prop := fun vs zs H Q => ∃ (a : Addr) (ns : List Int) (d : Int), vs = [V.ref a] ∧ zs = [.int d] ∧ SqL K H a (ns.map V.int) ∧ Q (.int (m d ns)) H
theorem cr_minDef (hc : X.calm = true) (hu : X.A.units + 64 < cLine) : CallRK X (.builtin "min") [Str.ofString "default"] (rMinDef X.K minI) := by
  intro pins s σ H vs zs us ws Q I r rz h
  obtain ⟨a, ns, d, rfl, rfl, hs, q⟩ := h
  obtain rfl := Vals.ref1 r
  obtain ⟨w1, rfl, t, rfl⟩ := vals1 rz
  obtain ⟨its, rv, hl, hz⟩ := I.list hs
  have hi := rv.ints
  refine PySem.W.min_list_datum_default (α := Int) (xs := ns) (I.ok.hd hc) hl.isList ⟨[], by simpa using ints_reads hi⟩ (by show X.A.units + 1 + 0 < cLine; omega) (fun e h' tk kp => ?_) (fun y ys i v h' tk e hv hh kp => ?_)
  · subst e
    exact ⟨.int d, H, I.kept kp, ⟨t, rfl⟩, q⟩
  · subst e
    obtain ⟨t', rfl⟩ := int_held hh
    exact ⟨.int (PySem.W.minOf y ys), H, I.kept kp, ⟨t', rfl⟩, q⟩
theorem cr_maxDef (hc : X.calm = true) (hu : X.A.units + 64 < cLine) : CallRK X (.builtin "max") [Str.ofString "default"] (rMinDef X.K maxI) := by
  intro pins s σ H vs zs us ws Q I r rz h
  obtain ⟨a, ns, d, rfl, rfl, hs, q⟩ := h
  obtain rfl := Vals.ref1 r
  obtain ⟨w1, rfl, t, rfl⟩ := vals1 rz
  obtain ⟨its, rv, hl, hz⟩ := I.list hs
  have hi := rv.ints
  refine PySem.W.max_list_datum_default (α := Int) (xs := ns) (I.ok.hd hc) hl.isList ⟨[], by simpa using ints_reads hi⟩ (by show X.A.units + 1 + 0 < cLine; omega) (fun e h' tk kp => ?_) (fun y ys i v h' tk e hv hh kp => ?_)
  · subst e
    exact ⟨.int d, H, I.kept kp, ⟨t, rfl⟩, q⟩
  · subst e
    obtain ⟨t', rfl⟩ := int_held hh
    exact ⟨.int (PySem.W.maxOf y ys), H, I.kept kp, ⟨t', rfl⟩, q⟩
def mDefD (m : Int → List Int → Int) (d : Int) (x : D) : R D := match x with
  | .lst ts => match asInts ts with
    | some xs => .ok (.t (.int (m d xs)))
    | none => .stuck
  | _ => .stuck
theorem sn_mdef {x : Str} {id : String} {m : Int → List Int → Int} {d : Int} {j : Nat} {p p2 kp : Pos} (hcr : CallRK X (.builtin id) [Str.ofString "default"] (rMinDef X.K m)) (ha : SE X EX C a f) (hm : X.mg x = none) (hv : bootBuiltins x = some (.builtin id)) (hg : Gl X x := by rfl) (hn : x ≠ "__name__" := by decide) (hdb : (x == ("__debug__" : Str)) = false := by decide)
    (he : starEach (a :: []) X.env = (false, eval a X.env) :: starEach [] X.env := by rfl)
    (he2 : backTo pos (starEach (a :: []) X.env) = (false, eval a X.env) :: backTo pos (starEach [] X.env) := by rfl) (hpl : (backTo pos (starEach (a :: []) X.env)).any (·.1) = false := by rfl)
    (hall : (backToKw pos (keywordEach [⟨some "default", .Constant (.int d) j p2, kp⟩] X.env)).all (·.1.isSome) = true := by rfl) (hnone : (backToKw pos (keywordEach [⟨some "default", .Constant (.int d) j p2, kp⟩] X.env)).any (·.1.isNone) = false := by rfl) (hks : (backToKw pos (keywordEach [⟨some "default", .Constant (.int d) j p2, kp⟩] X.env)).filterMap (·.1) = [Str.ofString "default"] := by rfl) :
    SN X EX C (.Call (.Name x p) [a] [⟨some "default", .Constant (.int d) j p2, kp⟩] pos) (u1 (mDefD m d) f) := by
  obtain ⟨te, pa, qa⟩ := ha
  have h1 := pe_callBK (p := p) hcr hg hm hv (pa_cons pa pa_nil he) (pk_cons (pe_int (X := X)) pk_nil) hn hdb he2 hpl hall hnone hks
  refine ⟨_, h1, fun F σ H ρ Q er w => ?_⟩
  refine qa F σ H ρ _ er (w.bind.imp fun d0 _ k v H1 s1 r1 => ?_)
  unfold mDefD at k
  split at k
  · split at k
    · rename_i ts xs hx
      obtain ⟨l, ws, rfl, hl2, rs⟩ := r1
      rw [asInts_T hx] at rs
      rw [rs.ints] at hl2
      exact ⟨l, xs, d, rfl, rfl, SqL.of hl2, k _ _ s1 rn_int⟩
    · exact k.elim
  · exact k.elim
/-! ### {name: number} -/
def kD1 (fk fv : Ev → R D) (ρ : Ev) : R D := fk ρ >>= fun k => fv ρ >>= fun v => match k, v with
  | .t (.str k), .t (.int v) => .ok (.dct [(k, v)])
  | _, _ => .stuck
theorem sn_d1 {k v : Expr} {fk fv : Ev → R D} (hk : SE X EX C k fk) (hv : SE X EX C v fv) : SN X EX C (.Dict [some k] [v] pos) (kD1 fk fv) := by
  obtain ⟨tk, pk, qk⟩ := hk
  obtain ⟨tv, pv, qv⟩ := hv
  refine ⟨_, pe_disp (pps_cons pk pv pps_nil) rfl rfl (by simp) (by simp), fun F σ H ρ Q er w p hp => ?_⟩
  have s0 := same_new hp (.dK [])
  refine qk F σ _ ρ _ (er.mono s0) ((Wp.bind w).mono s0 fun d1 _ k1 v1 H1 s1 r1 => ?_)
  refine qv F σ H1 ρ _ (er.mono (s0.trans s1)) ((Wp.bind k1).mono (s0.trans s1) fun d2 _ k2 v2 H2 s2 r2 => ?_)
  have hpd : H2 p = some (.dK []) := s2 _ _ (s1 _ _ upd_same)
  refine ⟨hpd, ?_⟩
  split at k2
  · rename_i ks vs _ _
    have e1 := rt_str (r1.same s2)
    have e2 := rt_int r2
    subst e1 e2
    refine ⟨[(Sum.inr ks, V.int vs)], rfl, by simp, ?_⟩
    have hs : Same H (upd H2 p (.dK (mergeK [] [(Sum.inr ks, V.int vs)]))) := fun b u q => by
      have hb : b ≠ p := fun e => by rw [e, hp] at q; cases q
      rw [upd_ne hb]
      exact s2 _ _ (s1 _ _ (s0 _ _ q))
    exact k2 _ _ hs ⟨p, rfl, hp, upd_same⟩
  · exact k2.elim
/-! ### for x in name or [..] -/
def forOO (j i : Nat) (g : Ev → R D) (body : Ev → R Out) (ρ : Ev) : R Out := match ρ[i]? with
  | some (.d (.lst xs) _) => if xs.isEmpty then forLO j g body ρ else forR j body xs (ρ.set i (.d (.lst xs) false))
  | _ => .stuck
theorem tru_lst {K : PySem.W.Frag} {H : Hp} {b : Addr} {vs : List V} (h : SqL K H b vs) : TruV K (.ref b) H (!vs.isEmpty) := .inl ⟨vs, h, rfl⟩
theorem ss_forO {j i : Nat} {tg e : Expr} {x : Str} {p p2 : Pos} {sts : List Stmt} {body : Ev → R Out} (hp : PassesOwn (model X.prog X.w) X.A X.env X.xe) (hc : X.calm = true) (hv : PE X (.Name x p) (tVar i)) (he : SN X EX C e g) (hg : PG X tg (gName j)) (hb : SB X EX C sts body)
    (hs : ∀ y, foldedSetIterable (.BoolOp .Or [.Name x p, e] p2) X.env y = pure y := by intro _; rfl) : SS X EX C (.For tg (.BoolOp .Or [.Name x p, e] p2) sts [] pos) (forOO j i g body) := by
  obtain ⟨te, pe, qe⟩ := he
  obtain ⟨tb, pb, qb⟩ := hb
  refine ⟨_, ps_for hp hc (pi_list (pe_orT hv (pe_one pe))) hg pb hs, fun F σ H ρ D er w => ?_⟩
  unfold forOO at w
  split at w
  · rename_i xs ow h
    obtain ⟨v, g1, g2, g3⟩ := er.slot _ _ _ h
    split at w
    · rename_i hemp
      have hxs : xs = [] := by simpa using hemp
      subst hxs
      have hlist : ∃ b, v = .ref b ∧ SqL X.K H b [] := by
        cases ow with
        | true => obtain ⟨b, vs, rfl, _, ha, ra⟩ := g2 rfl; rw [ra.unnil] at ha; exact ⟨b, rfl, SqL.of ha⟩
        | false => obtain ⟨b, vs, rfl, ha, ra⟩ := g3 rfl; rw [ra.unnil] at ha; exact ⟨b, rfl, SqL.of (er.same _ _ ha)⟩
      obtain ⟨b, rfl, hb0⟩ := hlist
      refine ⟨.ref b, g1, false, tru_lst hb0, ?_⟩
      rw [if_neg (by decide)]
      refine qe F σ H ρ _ er ((WS.bind w er.same).imp fun d _ k v H1 s1 r1 => ?_)
      cases d with
      | lst xs =>
        obtain ⟨a, vs, rfl, hn, ha, ra⟩ := r1
        refine ⟨a, rfl, ⟨vs, SqL.of ha⟩, ?_⟩
        have er1 := er.mono s1
        have hFn : F a = none := er.same.free hn
        have er2 : ER X.K (upd F a (.lst vs)) σ H1 ρ := er1.freeze ha fun i x v h g ad => by
          obtain ⟨v', q1, q2, _⟩ := er.slot i x true h
          rw [g] at q1; cases q1
          obtain ⟨_, o, ho, _⟩ := Ad.old (q2 rfl) (Ad.back s1 (q2 rfl) ad)
          rw [hn] at ho; cases ho
        exact for_frozen qb er2 upd_same ra (WS.grow k (same_new hFn _) (Same.tups s1))
      | _ => exact k.elim
    · rename_i hemp
      have hne : xs.isEmpty = false := by simpa using hemp
      cases ow with
      | true =>
        obtain ⟨a, vs, rfl, hF, ha, ra⟩ := g2 rfl
        have hvs : vs.isEmpty = false := by
          have := ra.length
          cases vs with
          | nil => cases xs with
            | nil => cases hne
            | cons x r => simp at this
          | cons x r => rfl
        refine ⟨.ref a, g1, true, ?_, ?_⟩
        · have := tru_lst (K := X.K) (SqL.of ha); rwa [hvs] at this
        · rw [if_pos rfl]
          refine ⟨a, rfl, ⟨vs, SqL.of ha⟩, ?_⟩
          have er2 := er.frozen h (fun z e => by cases e) g1 ha (show RP X.K (upd F a (.lst vs)) H (.lst xs) (.ref a) from ⟨a, vs, rfl, upd_same, ra⟩)
          exact for_frozen qb er2 upd_same ra (WS.grow w (same_new hF _) (TupLe.refl H))
      | false =>
        obtain ⟨a, vs, rfl, hF, ra⟩ := g3 rfl
        have hvs : vs.isEmpty = false := by
          have := ra.length
          cases vs with
          | nil => cases xs with
            | nil => cases hne
            | cons x r => simp at this
          | cons x r => rfl
        refine ⟨.ref a, g1, true, ?_, ?_⟩
        · have := tru_lst (K := X.K) (SqL.of (er.same _ _ hF)); rwa [hvs] at this
        · rw [if_pos rfl]
          refine ⟨a, rfl, ⟨vs, SqL.of (er.same _ _ hF)⟩, ?_⟩
          have e : ρ.set i (.d (.lst xs) false) = ρ := by
            apply List.ext_getElem?
            intro k
            by_cases hk : i = k
            · subst hk; rw [List.getElem?_set_self (List.getElem?_eq_some_iff.mp h).1, h]
            · rw [List.getElem?_set_ne hk]
          rw [e] at w
          exact for_frozen qb er hF ra w
  · exact w.elim
/-! ### sorted of pairs of a text and an int -/
def prT0 (p : Str × Int) : T := .tup [.str p.1, .int p.2]
def asPrs : List T → Option (List (Str × Int))
  | [] => some []
  | .tup [.str s, .int i] :: r => (asPrs r).map ((s, i) :: ·)
  | _ :: _ => none
theorem asPrs_eq : ∀ {ts : List T} {ps : List (Str × Int)}, asPrs ts = some ps → ts = ps.map prT0
  | [], ps, h => by simp [asPrs] at h; subst h; rfl
  | t :: r, ps, h => by
    unfold asPrs at h
    split at h
    · rename_i e; cases e
    · rename_i s i r' e
      cases e
      obtain ⟨qs, h1, rfl⟩ := Option.map_eq_some_iff.mp h
      rw [asPrs_eq h1]; rfl
    · cases h
def pairPy (p : Str × Int) : PyData := .tuple [.str p.1, .int p.2]
noncomputable def srtP (ps : List (Str × Int)) : List (Str × Int) := ps.mergeSort (PySem.W.dataLe false pairPy)
noncomputable def sortPD : List D → R D
  | [.lst ts] => match asPrs ts with
    | some ps => if ps.length < 1000 then .ok (.lst ((srtP ps).map prT0)) else .stuck
    | none => .stuck
  | _ => .stuck
def rSortPD (K : PySem.W.Frag) : List V → Hp → VK → Prop := fun vs H Q => ∃ (a : Addr) (ps : List (Str × Int)) (xs : List V), vs = [.ref a] ∧ SqL K H a xs ∧ RTs K H (ps.map prT0) xs ∧ ps.length < 1000 ∧ ∀ (p : Addr) (ys : List V), H p = none → RTs K H ((srtP ps).map prT0) ys → Q (.ref p) (upd H p (.lst ys))
theorem each_of {K : PySem.W.Frag} {H : Hp} : ∀ {ps : List (Str × Int)} {xs : List V} {us : List Value}, RTs K H (ps.map prT0) xs → Vals xs us → PySem.W.EachIs (fun (v : Value) (b : Str × Int) => ∃ u : V, RelV u v ∧ RT K H (prT0 b) u) us ps
  | [], xs, us, r, rv => by rw [r.unnil] at rv; cases rv; exact .nil
  | p :: ps, xs, us, r, rv => by
    obtain ⟨v, ws, rfl, r1, rs⟩ := RTs.uncons (d := prT0 p) (ds := ps.map prT0) r
    cases rv with
    | cons ra rb => exact .cons ⟨v, ra, r1⟩ (each_of rs rb)
theorem each_back {K : PySem.W.Frag} {H : Hp} : ∀ {ps : List (Str × Int)} {us : List Value}, PySem.W.EachIs (fun (v : Value) (b : Str × Int) => ∃ u : V, RelV u v ∧ RT K H (prT0 b) u) us ps → ∃ ys : List V, Vals ys us ∧ RTs K H (ps.map prT0) ys
  | _, _, .nil => ⟨[], .nil, RTs.nil⟩
  | _, _, .cons ⟨u, h1, h2⟩ r => by
    obtain ⟨ys, y1, y2⟩ := each_back r
    exact ⟨u :: ys, .cons h1 y1, RTs.cons h2 y2⟩
theorem alike_pair (p q : Str × Int) : PySem.W.alike (pairPy p) (pairPy q) = true := PySem.W.DatumOrd.alike (α := Str × Int) p q
theorem cr_sortPD (hu : X.A.units + 64 < cLine) : CallR X (.builtin "sorted") (rSortPD X.K) := by
  intro pins s σ H vs us Q I r h
  obtain ⟨a, ps, xs, rfl, hs, rs, hlen, q⟩ := h
  obtain rfl := Vals.ref1 r
  obtain ⟨its, rv, hl, hz⟩ := I.list hs
  have e := each_of rs rv
  have er : PySem.W.EachIs (fun v b => ∃ as, Reads s.heap v (pairPy b) as) its ps := e.mono fun v b ⟨u, h1, h2⟩ => by
    have := RT.dp _ _ h2
    exact Dp.reads I _ _ _ this h1
  refine PySem.W.sorted_data (enc := pairPy) hl.isList e er (fun d hd d' hd' => ?_) (.inl fun d hd => ?_) (by rw [sizeLine_eq]; omega) (fun b _ => ?_) fun out ho eo => ?_
  · obtain ⟨p, _, rfl⟩ := List.mem_map.mp hd
    obtain ⟨q, _, rfl⟩ := List.mem_map.mp hd'
    exact alike_pair p q
  · obtain ⟨p, _, rfl⟩ := List.mem_map.mp hd
    exact ⟨_, _, rfl⟩
  · have : (pairPy b).depth = 1 := by simp [pairPy, PyData.depth, PyData.depthAll]
    omega
  · obtain ⟨ys, y1, y2⟩ := each_back eo
    obtain ⟨ep, he'⟩ := PyProof.Rows.sortedAll_at s.heap its out.toArray
    have hyl : ys.length ≤ sizeLine := by rw [y1.length, ho, sizeLine_eq]; omega
    exact ⟨.ref _, upd H (s.heap.objs.size + 1) (.lst ys), I.laid (t' := s.toks) (fun _ _ => PyProof.Rows.sortedAll_old) (Nat.le_succ _) ⟨hyl, out, ep, y1, he'⟩, rfl, q _ _ (I.hok.fresh (Nat.le_succ _)) y2⟩
theorem im_sortPD : Impl1 X EX C sortPD (rSortPD X.K) := by
  intro ds vs H Q r w
  unfold sortPD at w
  split at w
  · split at w
    · rename_i ts ps hps
      split at w
      · rename_i hl
        obtain ⟨v, rfl, a, xs, rfl, ha, ra⟩ := rd1 r
        rw [asPrs_eq hps] at ra
        exact ⟨a, ps, xs, rfl, SqL.of ha, ra, hl, fun p ys hp hy => w _ _ (same_new hp _) (new_lst hp hy)⟩
      · exact w.elim
    · exact w.elim
  · exact w.elim
/-! ### the words -/
variable {h : Ev → R (List D)}
theorem sn_listSn (hc : X.calm = true) (ha : SA X EX C [a] h) (hm : X.mg "list" = none) {p : Pos} (hg : Gl X "list" := by rfl) (he : starEach (a :: []) X.env = (false, eval a X.env) :: starEach [] X.env := by rfl) (hpl : (backTo pos (starEach [] X.env)).any (·.1) = false := by rfl) : SN X EX C (.Call (.Name "list" p) [a] [] pos) (ap listSn h) :=
  sn_callTy (cr_listSn hc) im_listSn ha hm (by decide +kernel) hg (by decide) (by decide) he hpl
theorem sn_lenSn (hc : X.calm = true) (ha : SA X EX C [a] h) (hm : X.mg "len" = none) {p : Pos} (hg : Gl X "len" := by rfl) (he : starEach (a :: []) X.env = (false, eval a X.env) :: starEach [] X.env := by rfl) (hpl : (backTo pos (starEach [] X.env)).any (·.1) = false := by rfl) : SN X EX C (.Call (.Name "len" p) [a] [] pos) (ap lenSn h) :=
  sn_callB cr_lenSn im_lenSn ha hm PySem.boot_len hg (by decide) (by decide) he hpl
theorem sn_tupleSn (hc : X.calm = true) (ha : SA X EX C [a] h) (hm : X.mg "tuple" = none) {p : Pos} (hg : Gl X "tuple" := by rfl) (he : starEach (a :: []) X.env = (false, eval a X.env) :: starEach [] X.env := by rfl) (hpl : (backTo pos (starEach [] X.env)).any (·.1) = false := by rfl) : SN X EX C (.Call (.Name "tuple" p) [a] [] pos) (ap tupleSn h) :=
  sn_callTy (cr_tupleSn hc) im_tupleSn ha hm (by decide +kernel) hg (by decide) (by decide) he hpl
theorem sn_sortPD (hu : X.A.units + 64 < cLine) (ha : SA X EX C [a] h) (hm : X.mg "sorted" = none) {p : Pos} (hg : Gl X "sorted" := by rfl) (he : starEach (a :: []) X.env = (false, eval a X.env) :: starEach [] X.env := by rfl) (hpl : (backTo pos (starEach [] X.env)).any (·.1) = false := by rfl) : SN X EX C (.Call (.Name "sorted" p) [a] [] pos) (ap sortPD h) :=
  sn_callB (cr_sortPD hu) im_sortPD ha hm (by decide +kernel) hg (by decide) (by decide) he hpl
/-! ### names of the module -/
def t_LETTERS : T := .str "abcdefghijklmnopqrstuvwxyz"
def t_MOST_WITHIN : T := .int 40
def t_MOST_FIGURES : T := .int 60
def GlobT (K : PySem.W.Frag) (mg : Str → Option Value) (x : Str) (t : T) : Prop := ∃ u v, mg x = some u ∧ RelV v u ∧ ∀ H, RT K H t v
theorem sn_globT {x : Str} {t : T} (h : GlobT X.K X.mg x t) (hg : Gl X x := by rfl) (hd : (x == ("__debug__" : Str)) = false := by decide) : SN X EX C (.Name x pos) (fun _ => .ok (.t t)) := by
  obtain ⟨u, v, h1, h2, h3⟩ := h
  exact sn_glob h1 h2 h3 hg hd
theorem glob_tup2 {K : PySem.W.Frag} {mg : Str → Option Value} {h : Heap} {x s : Str} {a b : Addr} {od1 od2 : Option Addr} {sl1 sl2 : Array (Option Value)} {n1 n2 : Nat} {t : Tok} (KX : K.In h) (G : h.Ns mainGlobals mg) (n : PySem.W.nsIn K mainGlobals x = some (some (.ref a)))
    (l1 : K.lookup a = some ⟨.type "tuple", od1, .seq #[.str s t, .ref b] n1, sl1⟩) (l2 : K.lookup b = some ⟨.type "tuple", od2, .seq #[] n2, sl2⟩) : GlobT K mg x (.tup [.str s, .tup []]) := by
  refine ⟨.ref a, .ref a, PySem.W.mg_of KX G n, rfl, fun H => ?_⟩
  unfold RT
  refine ⟨a, [.str s, .ref b], rfl, .inr ⟨_, #[.str s t, .ref b], n1, l1, rfl, rfl, by rw [sizeLine_eq]; simp, .cons ⟨t, rfl⟩ (.cons rfl .nil)⟩, ?_⟩
  refine RTs.cons (by unfold RT; rfl) (RTs.cons ?_ RTs.nil)
  unfold RT
  exact ⟨b, [], rfl, .inr ⟨_, #[], n2, l2, rfl, rfl, by simp, .nil⟩, RTs.nil⟩
theorem glob_int {K : PySem.W.Frag} {mg : Str → Option Value} {h : Heap} {x : Str} {i : Int} {t : Tok} (KX : K.In h) (G : h.Ns mainGlobals mg) (n : PySem.W.nsIn K mainGlobals x = some (some (.int i t))) : GlobT K mg x (.int i) :=
  ⟨.int i t, .int i, PySem.W.mg_of KX G n, ⟨t, rfl⟩, fun H => by unfold RT; rfl⟩
theorem glob_str {K : PySem.W.Frag} {mg : Str → Option Value} {h : Heap} {x s : Str} {t : Tok} (KX : K.In h) (G : h.Ns mainGlobals mg) (n : PySem.W.nsIn K mainGlobals x = some (some (.str s t))) : GlobT K mg x (.str s) :=
  ⟨.str s t, .str s, PySem.W.mg_of KX G n, ⟨t, rfl⟩, fun H => by unfold RT; rfl⟩
end
/-! ### a, b, c = a list -/
section
variable {X : Cx} {EX : XK} {C : Nat → Addr} {e : Expr} {f : Ev → R D} {pos : Pos}
def unpLO (is : List Nat) (f : Ev → R D) (ρ : Ev) : R Out := f ρ >>= fun d => match d with
  | .lst xs => gNames is xs ρ >>= fun ρ' => .ok (.nx ρ')
  | _ => .stuck
def gLst (K : PySem.W.Frag) (n : Nat) (t : TGs) : TG := fun v σ H Q => ∃ a xs, v = .ref a ∧ SqL K H a xs ∧ xs.length = n ∧ t xs σ H Q
theorem pg_lst {es : List Expr} {k : Nat} {t : TGs} {n : Nat} (hc : X.calm = true) (h : PGs X es t)
    (hn : (assignEach es X.env).length = n := by rfl) (hst : (assignEach es X.env).findIdx? (·.1) = none := by rfl) : PG X (.Tuple es k pos) (gLst X.K n t) := by
  refine ⟨fun pins s σ H v u Q I r hw => ?_⟩
  obtain ⟨a, xs, e1, hq, hl, hw⟩ := hw
  subst e1
  cases r
  obtain ⟨its, rv, ht, hz⟩ := I.list hq
  have hli : s.heap.IsList a its.toArray := by
    obtain ⟨o, n, e1, e2, e3, e4⟩ := ht
    exact ⟨o, e1, e2, n, e4⟩
  rw [PyProof.Rows.assign_Tuple]
  refine wpAny_bind (wpAny_standAt ?_)
  unfold unpack
  have hn2 : (assignEach es X.env).length = its.toArray.size := by simp [hn, ← hl, rv.length]
  rw [hn2, hst]
  refine wpAny_bind (wpAny_holding (PySem.W.kun_itemsOf (I.ok.hd hc) hli fun h' hx => ?_))
  have I1 : Inv X pins σ H { s with heap := h' } := I.kept (t' := s.toks) fun b o e => hx b o (Nat.ne_of_lt (Heap.lt_size e)) e
  exact h.run pins _ σ H xs _ Q I1 (by simpa using rv) hw
theorem ss_unpL {is : List Nat} {es : List Expr} {k : Nat} {p1 : Pos} (hc : X.calm = true) (he : SE X EX C e f) (hg : PG X (.Tuple es k p1) (gLst X.K is.length (gList is)))
    (hs : swapsWithSole [.Tuple es k p1] e pos.line X.env = pure false := by rfl) (hw : swappedStores [.Tuple es k p1] e X.env = pure none := by rfl) :
    SS X EX C (.Assign [.Tuple es k p1] e pos) (unpLO is f) := by
  obtain ⟨te, pe, qe⟩ := he
  refine ⟨_, ps_asg pe hg hs hw, fun F σ H ρ D er w => ?_⟩
  refine qe F σ H ρ _ er ((WS.bind w er.same).imp fun d _ k v H1 s1 r1 => ?_)
  cases d with
  | lst xs =>
    obtain ⟨a, vs, rfl, ha, ra⟩ := r1
    have k : WS X.K EX C F H D (gNames is xs ρ >>= fun ρ' => .ok (.nx ρ')) := k
    cases e2 : gNames is xs ρ with
    | ok ρ' =>
      rw [e2] at k
      refine ⟨a, vs, rfl, .inl (.inl ha), by rw [ra.length, gNames_len e2], ?_⟩
      exact gl_ok (F := F) e2 ra (er.mono s1) fun σ' er' => k F σ' H1 (Same.refl F) (Same.tups s1) er'
    | raise c => exact (gNames_nr e2).elim
    | stuck => rw [e2] at k; exact k.elim
  | _ => exact k.elim
end
end Pf

set_option Elab.async false
set_option linter.all false
set_option maxRecDepth 100000
set_option maxHeartbeats 4000000
namespace Pf
open PySem L2 PyProof.Rows
/-! ## words of a note: str(int), int(text), split, max, or by value -/
section
variable {X : Cx} {EX : XK} {C : Nat → Addr} {e a b : Expr} {f g : Ev → R D} {h : Ev → R (List D)} {pos : Pos}
def strD : List D → R D
  | [.t (.int i)] => if i.natAbs.log2 < 1920 then .ok (.t (.str (toString i))) else .stuck
  | _ => .stuck
theorem im_str : Impl1 X EX C strD (fun xs H Q => ∃ i, xs = [.int i] ∧ i.natAbs.log2 < 1920 ∧ Q (.str (toString i)) H) := by
  intro ds vs H Q r w
  unfold strD at w
  split at w
  · split at w
    · rename_i hi
      obtain ⟨v, rfl, h⟩ := rd1 r
      rw [rt_int h]
      exact ⟨_, rfl, hi, w _ H (Same.refl H) rn_str⟩
    · exact w.elim
  · exact w.elim
theorem sn_strI (ha : SA X EX C [a] h) (hm : X.mg "str" = none) {p : Pos} (hg : Gl X "str" := by rfl) (he : starEach (a :: []) X.env = (false, eval a X.env) :: starEach [] X.env := by rfl) (hpl : (backTo pos (starEach [] X.env)).any (·.1) = false := by rfl) : SN X EX C (.Call (.Name "str" p) [a] [] pos) (ap strD h) :=
  sn_callTy call_str_int im_str ha hm (by decide +kernel) hg (by decide) (by decide) he hpl
def intSD : List D → R D
  | [.t (.str z)] => match PySem.intText? z with
    | some n => if z.length ≤ 640 then .ok (.t (.int n)) else .stuck
    | none => .stuck
  | _ => .stuck
theorem im_intS : Impl1 X EX C intSD (fun xs H Q => ∃ a n, xs = [.str a] ∧ PySem.intText? a = some n ∧ a.length ≤ 640 ∧ Q (.int n) H) := by
  intro ds vs H Q r w
  unfold intSD at w
  split at w
  · split at w
    · rename_i n hn
      split at w
      · rename_i hl
        obtain ⟨v, rfl, h⟩ := rd1 r
        rw [rt_str h]
        exact ⟨_, n, rfl, hn, hl, w _ H (Same.refl H) rn_int⟩
      · exact w.elim
    · exact w.elim
  · exact w.elim
theorem sn_intS (ha : SA X EX C [a] h) (hm : X.mg "int" = none) {p : Pos} (hg : Gl X "int" := by rfl) (he : starEach (a :: []) X.env = (false, eval a X.env) :: starEach [] X.env := by rfl) (hpl : (backTo pos (starEach [] X.env)).any (·.1) = false := by rfl) : SN X EX C (.Call (.Name "int" p) [a] [] pos) (ap intSD h) :=
  sn_callTy call_int_str im_intS ha hm (by decide +kernel) hg (by decide) (by decide) he hpl
def max2D : List D → R D
  | [.t (.int i), .t (.int j)] => .ok (.t (.int (if j > i then j else i)))
  | _ => .stuck
theorem im_max2 : Impl1 X EX C max2D (fun xs H Q => ∃ i j, xs = [.int i, .int j] ∧ Q (.int (if j > i then j else i)) H) := by
  intro ds vs H Q r w
  unfold max2D at w
  split at w
  · obtain ⟨v, vs', rfl, h1, h2⟩ := r
    obtain ⟨v2, rfl, h3⟩ := rd1 h2
    rw [rt_int h1, rt_int h3]
    exact ⟨_, _, rfl, w _ H (Same.refl H) rn_int⟩
  · exact w.elim
theorem sn_max2 (hc : X.calm = true) (ha : SA X EX C [a, b] h) (hm : X.mg "max" = none) {p : Pos} (hg : Gl X "max" := by rfl) (he : starEach (a :: [b]) X.env = (false, eval a X.env) :: starEach [b] X.env := by rfl) (hpl : (backTo pos (starEach [b] X.env)).any (·.1) = false := by rfl) : SN X EX C (.Call (.Name "max" p) [a, b] [] pos) (ap max2D h) :=
  sn_callB (call_max2 hc) im_max2 ha hm (by decide +kernel) hg (by decide) (by decide) he hpl
/-- text.split(sep) -/
def splitD (x : Str) : D → R D
  | .t (.str y) => if (y.length == 0) = false ∧ x.length + 2 ≤ 16777216 then .ok (.lst ((Txt.split x y).map T.str)) else .stuck
  | _ => .stuck
def spl (f g : Ev → R D) (ρ : Ev) : R D := f ρ >>= fun d => match d with
  | .t (.str x) => g ρ >>= splitD x
  | _ => .stuck
theorem sn_split {apos : Pos} (ha : SE X EX C a f) (hb : SE X EX C b g) (hs : starEach [b] X.env = [(false, eval b X.env)] := by rfl) (hbase : attributeBase a "split" X.env (eval a X.env) = eval a X.env := by rfl) (hline : (apos.endLine == pos.line) = true := by rfl) :
    SN X EX C (.Call (.Attribute a "split" apos) [b] [] pos) (spl f g) := by
  obtain ⟨ta, pa, qa⟩ := ha
  obtain ⟨tb, pb, qb⟩ := hb
  refine ⟨_, pe_split pa pb hs hbase hline, fun F σ H ρ Q er w => ?_⟩
  refine qa F σ H ρ _ er (w.bind.imp fun d _ k v H1 s1 r1 => ?_)
  cases d with
  | t z =>
    cases z with
    | str x =>
      have k : WN X.K EX C H (g ρ >>= splitD x) Q := k
      refine ⟨⟨x, rt_str r1⟩, ?_⟩
      refine qb F σ H1 ρ _ (er.mono s1) ((WN.move k s1).bind.imp fun d2 _ k2 u H2 s2 r2 => ?_)
      cases d2 with
      | t z2 =>
        cases z2 with
        | str y =>
          simp only [splitD] at k2
          split at k2
          · rename_i hl
            refine ⟨x, y, rt_str r1, by rw [rt_str r2], hl.1, by rw [sizeLine_eq]; exact hl.2, fun p hp => ?_⟩
            exact k2 _ _ (s2.trans (same_new hp _)) ((new_lst hp (RTs.ofStrs _)).less s2)
          · exact k2.elim
        | _ => exact k2.elim
      | _ => exact k2.elim
    | _ => exact k.elim
  | _ => exact k.elim
/-- x or y, by the value -/
def orT (f g : Ev → R D) (ρ : Ev) : R D := f ρ >>= fun d => match d with
  | .t .non => g ρ
  | .t (.int i) => if i = 0 then g ρ else .ok (.t (.int i))
  | _ => .stuck
theorem sn_orT {rest : List Expr} (ha : SE X EX C a f) (hb : SN X EX C (.BoolOp .Or (b :: rest) pos) g) : SN X EX C (.BoolOp .Or (a :: b :: rest) pos) (orT f g) := by
  obtain ⟨ta, pa, qa⟩ := ha
  obtain ⟨tb, pb, qb⟩ := hb
  refine ⟨_, pe_orT pa pb, fun F σ H ρ Q er w => ?_⟩
  refine qa F σ H ρ _ er (w.bind.imp fun d _ k v H1 s1 r1 => ?_)
  cases d with
  | t z =>
    cases z with
    | non =>
      rw [rt_non r1]
      exact ⟨false, rfl, by rw [if_neg (by decide)]; exact qb F σ H1 ρ Q (er.mono s1) (WN.move k s1)⟩
    | int i =>
      rw [rt_int r1]
      have k : WN X.K EX C H (if i = 0 then g ρ else .ok (.t (.int i))) Q := k
      by_cases h0 : i = 0
      · rw [if_pos h0] at k
        exact ⟨false, by show false = (i != 0); simp [h0], by rw [if_neg (by decide)]; exact qb F σ H1 ρ Q (er.mono s1) (WN.move k s1)⟩
      · rw [if_neg h0] at k
        exact ⟨true, by show true = (i != 0); simp [h0], by rw [if_pos rfl]; exact k _ H1 s1 rn_int⟩
    | _ => exact k.elim
  | _ => exact k.elim
end
/-! ## a pair of a value and a list -/
section
variable {X : Cx} {EX : XK} {C : Nat → Addr} {e a b : Expr} {f g : Ev → R D} {pos : Pos}
def prD (f g : Ev → R D) (ρ : Ev) : R D := f ρ >>= fun d => match d with
  | .t x => g ρ >>= fun d2 => match d2 with
    | .lst xs => .ok (.pr x xs)
    | _ => .stuck
  | _ => .stuck
theorem sn_pr {x1} (ha : SE X EX C a f) (hb : SN X EX C b g) (h1 : starEach [a, b] X.env = (false, eval a X.env) :: starEach [b] X.env := by rfl) (h2 : starEach [b] X.env = (false, eval b X.env) :: starEach [] X.env := by rfl) : SN X EX C (.Tuple [a, b] x1 pos) (prD f g) := by
  obtain ⟨ta, pa, qa⟩ := ha
  obtain ⟨tb, pb, qb⟩ := hb
  refine ⟨_, pe_tup (pa_cons pa (pa_cons pb pa_nil h2) h1), fun F σ H ρ Q er w => ?_⟩
  refine qa F σ H ρ _ er (w.bind.imp fun d _ k v H1 s1 r1 => ?_)
  cases d with
  | t x =>
    have k : WN X.K EX C H (g ρ >>= fun d2 => match d2 with | .lst xs => .ok (.pr x xs) | _ => .stuck) Q := k
    refine qb F σ H1 ρ _ (er.mono s1) ((WN.move k s1).bind.imp fun d2 _ k2 u H2 s2 r2 => ?_)
    cases d2 with
    | lst xs =>
      obtain ⟨c, ys, rfl, n1, n2, n3⟩ := r2
      refine ⟨by rw [sizeLine_eq]; simp, fun p hp => k2 _ _ (s2.trans (same_new hp _)) ?_⟩
      have r1' : RT X.K H1 x v := r1
      refine ⟨p, v, c, ys, rfl, upd_same, RT.same (s2.trans (same_new hp _)) r1', n1, same_new hp _ _ _ n2, n3.same (same_new hp _)⟩
    | _ => exact k2.elim
  | _ => exact k.elim
def pr1 (f : Ev → R D) (ρ : Ev) : R D := f ρ >>= fun d => match d with
  | .pr _ xs => .ok (.lst xs)
  | _ => .stuck
theorem se_pr1 {j : Nat} {p : Pos} (ha : SE X EX C a f) : SE X EX C (.Subscript a (.Constant (.int 1) j p) pos) (pr1 f) := by
  obtain ⟨ta, pa, qa⟩ := ha
  refine ⟨_, pe_ix ix_seq pa pe_int (fun _ _ => rfl), fun F σ H ρ Q er w => ?_⟩
  have w' : WD X.K EX C H (f ρ >>= fun d => match d with | .pr _ xs => .ok (.lst xs) | _ => .stuck) Q := w
  refine qa F σ H ρ _ er ((Wp.bind w').imp fun d _ k v H1 s1 r1 => ?_)
  cases d with
  | pr x xs =>
    obtain ⟨a, u, b, ys, rfl, g1, g2, g3, g4⟩ := r1
    exact .inr (.inl ⟨a, [u, .ref b], 1, .ref b, rfl, rfl, .inl (.inl g1), rfl, k (.ref b) H1 s1 ⟨b, ys, rfl, g3, g4⟩⟩)
  | _ => exact k.elim
theorem ER.mov {K : PySem.W.Frag} {F H : Hp} {σ : L2.St} {ρ : Ev} {i j : Nat} {x : T} {xs : List T} {a b : Addr} {u : V} (er : ER K F σ H ρ) (h : ρ[i]? = some (.d (.pr x xs) true)) (hv : σ[i]? = some (some (.ref a))) (ha : H a = some (.tup [u, .ref b])) (hij : i ≠ j) (hj : j < ρ.length) :
    ER K F (σ.set j (some (.ref b))) H ((ρ.set j (.d (.lst xs) true)).set i .un) := by
  obtain ⟨v, q1, q2, _⟩ := er.slot i _ true h
  rw [hv] at q1; cases q1
  obtain ⟨a0, u0, b0, ys, e1, e2, e3, e4, e5, e6⟩ := q2 rfl
  cases e1
  rw [ha] at e2; cases e2
  have hi : i < ρ.length := (List.getElem?_eq_some_iff.mp h).1
  have hjs : j < σ.length := by rw [er.len]; exact hj
  have get : ∀ (k : Nat) y o, ((ρ.set j (.d (.lst xs) true)).set i .un)[k]? = some (.d y o) → k ≠ i ∧ ((k = j ∧ y = .lst xs ∧ o = true) ∨ (k ≠ j ∧ ρ[k]? = some (.d y o))) := by
    intro k y o hk
    have hki : k ≠ i := by
      intro e
      subst e
      rw [List.getElem?_set_self (by simpa using hi)] at hk; cases hk
    rw [List.getElem?_set_ne (fun e => hki e.symm)] at hk
    refine ⟨hki, ?_⟩
    by_cases hkj : j = k
    · subst hkj
      rw [List.getElem?_set_self hj] at hk; cases hk
      exact .inl ⟨rfl, rfl, rfl⟩
    · rw [List.getElem?_set_ne hkj] at hk
      exact .inr ⟨fun e => hkj e.symm, hk⟩
  refine ⟨er.same, fun k y o hk => ?_, fun k l y z v1 v2 c h1 h2 g1 g2 a1 a2 => ?_, by simp [er.len], fun k v hk => ?_⟩
  · obtain ⟨hki, hk | hk⟩ := get k y o hk
    · obtain ⟨rfl, rfl, rfl⟩ := hk
      exact ⟨.ref b, List.getElem?_set_self hjs, fun _ => ⟨b, ys, rfl, e4, e5, e6⟩, fun q => by cases q⟩
    · rw [List.getElem?_set_ne (fun e => hk.1 e.symm)]
      exact er.slot k y o hk.2
  · have ab : Ad H (.pr x xs) (.ref a) b := ⟨a, u, rfl, ha⟩
    obtain ⟨hki, hk⟩ := get k y true h1
    obtain ⟨hli, hl⟩ := get l z true h2
    rcases hk with ⟨rfl, rfl, _⟩ | ⟨hkj, hk⟩
    · rw [List.getElem?_set_self hjs] at g1; cases g1
      cases a1
      rcases hl with ⟨rfl, rfl, _⟩ | ⟨hlj, hl⟩
      · rfl
      · rw [List.getElem?_set_ne (fun e => hlj e.symm)] at g2
        exact absurd (er.apart i l _ _ _ _ _ h hl hv g2 ab a2) (fun e => hli e.symm)
    · rw [List.getElem?_set_ne (fun e => hkj e.symm)] at g1
      rcases hl with ⟨rfl, rfl, _⟩ | ⟨hlj, hl⟩
      · rw [List.getElem?_set_self hjs] at g2; cases g2
        cases a2
        exact absurd (er.apart i k _ _ _ _ _ h hk hv g1 ab a1) (fun e => hki e.symm)
      · rw [List.getElem?_set_ne (fun e => hlj e.symm)] at g2
        exact er.apart k l y z v1 v2 c hk hl g1 g2 a1 a2
  · have hki : k ≠ i := by
      intro e
      subst e
      rw [List.getElem?_set_self (by simpa using hi)] at hk; cases hk
    rw [List.getElem?_set_ne (fun e => hki e.symm)] at hk
    by_cases hkj : j = k
    · subst hkj
      rw [List.getElem?_set_self hj] at hk; cases hk
    · rw [List.getElem?_set_ne hkj] at hk ⊢
      exact er.raw k v hk
/-- y = x[1], x a pair that is not used any more -/
def movO (j i : Nat) (ρ : Ev) : R Out := match ρ[i]? with
  | some (.d (.pr _ xs) true) => if i ≠ j ∧ j < ρ.length then .ok (.nx ((ρ.set j (.d (.lst xs) true)).set i .un)) else .stuck
  | _ => .stuck
theorem ss_mov {i j n : Nat} {x y : Str} {p p2 p3 pos' : Pos} (pv : PE X (.Name x p) (tVar i)) (hN : X.N.Nodup) (hj : X.N[j]? = some y := by rfl) (hx : Loc X.env.scope y := by first | exact Or.inl rfl | exact Or.inr rfl) (hs : swapsWith (.Subscript (.Name x p) (.Constant (.int 1) n p2) p3) (some (.Name y pos')) pos.line X.env = pure false := by rfl)
    (hf : X.fn y = true ∨ X.env.scope.names.lookup y = some .local := by first | exact .inl rfl | exact .inr rfl | assumption) : SS X EX C (.Assign [.Name y pos'] (.Subscript (.Name x p) (.Constant (.int 1) n p2) p3) pos) (movO j i) := by
  refine ⟨_, ps_set hN hj hx (pe_ix ix_seq pv pe_int (fun _ _ => rfl)) hs hf, fun F σ H ρ D er w => ?_⟩
  unfold movO at w
  split at w
  · rename_i z xs h
    split at w
    · rename_i hl
      obtain ⟨v, g1, g2, _⟩ := er.slot i _ true h
      obtain ⟨a, u, b, ys, rfl, e2, e3, e4, e5, e6⟩ := g2 rfl
      refine ⟨.ref a, g1, .inr (.inl ⟨a, [u, .ref b], 1, .ref b, rfl, rfl, .inl (.inl e2), rfl, ?_⟩)⟩
      exact w F _ H (Same.refl F) (TupLe.refl H) (er.mov h g1 e2 hl.1 hl.2)
    · exact w.elim
  · exact w.elim
/-- return (e, x), x a list of the def's own -/
def retPr (f : Ev → R D) (i : Nat) (ρ : Ev) : R Out := f ρ >>= fun d => match d with
  | .t z => match ρ[i]? with
    | some (.d (.lst xs) true) => .ok (.rt (.pr z xs))
    | _ => .stuck
  | _ => .stuck
theorem ss_retPr {i : Nat} {x : Str} {p pos' : Pos} {x1} (ha : SE X EX C a f) (pv : PE X (.Name x p) (tVar i)) (h1 : starEach [a, .Name x p] X.env = (false, eval a X.env) :: starEach [.Name x p] X.env := by rfl) (h2 : starEach [.Name x p] X.env = (false, eval (.Name x p) X.env) :: starEach [] X.env := by rfl) :
    SS X EX C (.Return (some (.Tuple [a, .Name x p] x1 pos')) pos) (retPr f i) := by
  obtain ⟨ta, pa, qa⟩ := ha
  refine ⟨_, ps_ret (pe_tup (pa_cons pa (pa_cons pv pa_nil h2) h1)), fun F σ H ρ D er w => ?_⟩
  refine qa F σ H ρ _ er ((WS.bind w er.same).imp fun d _ k v H1 s1 r1 => ?_)
  cases d with
  | t z =>
    have k : WS X.K EX C F H D (match ρ[i]? with | some (.d (.lst xs) true) => .ok (.rt (.pr z xs)) | _ => .stuck) := k
    split at k
    · rename_i xs h
      obtain ⟨u, g1, g2, _⟩ := (er.mono s1).slot i _ true h
      obtain ⟨c, ys, rfl, n1, n2, n3⟩ := g2 rfl
      refine ⟨.ref c, g1, by rw [sizeLine_eq]; simp, fun p hp => k _ _ (er.same.trans (s1.trans (same_new hp _))) ?_⟩
      have r1' : RT X.K H1 z v := r1
      exact ⟨p, v, c, ys, rfl, upd_same, RT.same (same_new hp _) r1', n1, same_new hp _ _ _ n2, n3.same (same_new hp _)⟩
    · exact k.elim
  | _ => exact k.elim
/-- return (e, x[1]), x a pair of the def's own -/
def retPr2 (f : Ev → R D) (i : Nat) (ρ : Ev) : R Out := f ρ >>= fun d => match d with
  | .t z => match ρ[i]? with
    | some (.d (.pr _ xs) true) => .ok (.rt (.pr z xs))
    | _ => .stuck
  | _ => .stuck
theorem ss_retPr2 {i n : Nat} {x : Str} {p p2 p3 pos' : Pos} {x1} (ha : SE X EX C a f) (pv : PE X (.Name x p) (tVar i)) (h1 : starEach [a, .Subscript (.Name x p) (.Constant (.int 1) n p2) p3] X.env = (false, eval a X.env) :: starEach [.Subscript (.Name x p) (.Constant (.int 1) n p2) p3] X.env := by rfl) (h2 : starEach [.Subscript (.Name x p) (.Constant (.int 1) n p2) p3] X.env = (false, eval (.Subscript (.Name x p) (.Constant (.int 1) n p2) p3) X.env) :: starEach [] X.env := by rfl) :
    SS X EX C (.Return (some (.Tuple [a, .Subscript (.Name x p) (.Constant (.int 1) n p2) p3] x1 pos')) pos) (retPr2 f i) := by
  obtain ⟨ta, pa, qa⟩ := ha
  refine ⟨_, ps_ret (pe_tup (pa_cons pa (pa_cons (pe_ix ix_seq pv pe_int (fun _ _ => rfl)) pa_nil h2) h1)), fun F σ H ρ D er w => ?_⟩
  refine qa F σ H ρ _ er ((WS.bind w er.same).imp fun d _ k v H1 s1 r1 => ?_)
  cases d with
  | t z =>
    have k : WS X.K EX C F H D (match ρ[i]? with | some (.d (.pr _ xs) true) => .ok (.rt (.pr z xs)) | _ => .stuck) := k
    split at k
    · rename_i y xs h
      obtain ⟨u, g1, g2, _⟩ := (er.mono s1).slot i _ true h
      obtain ⟨a0, u0, c, ys, rfl, n0, n00, n1, n2, n3⟩ := g2 rfl
      refine ⟨.ref a0, g1, .inr (.inl ⟨a0, [u0, .ref c], 1, .ref c, rfl, rfl, .inl (.inl n0), rfl, ?_⟩)⟩
      refine ⟨by rw [sizeLine_eq]; simp, fun p hp => k _ _ (er.same.trans (s1.trans (same_new hp _))) ?_⟩
      have r1' : RT X.K H1 z v := r1
      exact ⟨p, v, c, ys, rfl, upd_same, RT.same (same_new hp _) r1', n1, same_new hp _ _ _ n2, n3.same (same_new hp _)⟩
    · exact k.elim
  | _ => exact k.elim
end
/-! ## try: return (word, f(..)), except SomeError as e: return (word(e), True) -/
section
variable {X : Cx} {EX : XK} {C : Nat → Addr} {pos : Pos}
@[simp] def tryTO (i : Nat) (z : Str) (gr : List D → R D) (h : Ev → R (List D)) (ρ : Ev) : R Out := h ρ >>= fun ds => match gr ds with
  | .ok (.t x) => .ok (.rt (.t (.tup [.str z, x])))
  | .ok _ => .stuck
  | .raise c => if c < 3 ∧ i < ρ.length then .ok (.rt (.t (.tup [.str (wordOf c), .bl true]))) else .stuck
  | .stuck => .stuck
def tsWT (C : Nat → Addr) (i : Nat) : Addr → Value → Option Addr → TS := fun a cls d D σ H => (∃ c, c < 3 ∧ cls = .ref (C c) ∧ d = none ∧ ∀ H' p, Same H H' → H' p = none → D.rt (.ref p) (upd H' p (.tup [.str (wordOf c), .bl true]))) ∧ σ[i]? = some (some (.ref a))
theorem suiteWT {i k : Nat} {x e : Str} {p q p2 p3 p4 : Pos} {j : Nat} {x1} {a : Addr} {oe : Obj} {cls : Value} {d : Option Addr} {pn : List (Addr × Obj)} (c : CalW X.prog X.w X.K X.mg X.base C x k) (hr : Room k X.A) (hz : L2N.Zn cls d oe) (hf : ∃ vs, oe.data = .fields vs) (hg : Gl X x)
    (pv : PE (X.suite a ((a, oe) :: pn)) (.Name e q) (tVar i)) (hdb : (x == ("__debug__" : Str)) = false) (he : starEach [.Name e q] X.env = (false, eval (.Name e q) X.env) :: starEach [] X.env) (hpl : (backTo p2 (starEach [] X.env)).any (·.1) = false)
    (h1 : starEach [.Call (.Name x p) [.Name e q] [] p2, .Constant (.bool true) j p3] X.env = (false, eval (.Call (.Name x p) [.Name e q] [] p2) X.env) :: starEach [.Constant (.bool true) j p3] X.env) (h2 : starEach [.Constant (.bool true) j p3] X.env = (false, eval (.Constant (.bool true) j p3) X.env) :: starEach [] X.env) :
    PSs (X.suite a ((a, oe) :: pn)) [.Return (some (.Tuple [.Call (.Name x p) [.Name e q] [] p2, .Constant (.bool true) j p3] x1 p4)) pos] (tsWT C i a cls d) := by
  obtain ⟨fa, fd, y, F, hm, hk, hb⟩ := c
  refine ⟨fun pins s σ H D I h => ?_⟩
  obtain ⟨⟨c, hc, rfl, rfl, hq⟩, hs⟩ := h
  obtain ⟨vs, hv⟩ := hf
  have hot : L2H.Hot1 (X.suite a ((a, oe) :: pn)).A (a, oe) := ⟨rfl, vs, hv, hz.2.2 vs hv⟩
  have hr' : L2H.RoomH k (X.suite a ((a, oe) :: pn)).A := L2H.roomH_of hr |> fun r => ⟨r.dp, r.un⟩
  have P1 : PE (X.suite a ((a, oe) :: pn)) (.Call (.Name x p) [.Name e q] [] p2) _ := pe_callW (pr := (a, oe)) (c := c) F hc hr' hot List.mem_cons_self hz.zc hg hm hk hb pv hdb he hpl
  exact (pss_one (ps_ret (pe_tup (pa_cons P1 (pa_cons pe_bl pa_nil h2) h1)))).run pins s σ H D I ⟨hs, fun H' s' => ⟨by rw [sizeLine_eq]; simp, fun p hp => hq H' p s' hp⟩⟩
theorem wx_wordT {K : PySem.W.Frag} {cSome : Value} {i : Nat} {D : Ends} {σ : L2.St} {H : Hp} {c : Nat} (hi : i < σ.length) (hx : PySem.W.exmOne K (.ref (C c)) cSome = some true) (hc : c < 3) (hq : ∀ H' p, Same H H' → H' p = none → D.rt (.ref p) (upd H' p (.tup [.str (wordOf c), .bl true]))) :
    wAs K cSome i (tsWT C i) (fun _ _ _ _ => False) D (.ref (C c)) none σ H := by
  refine ⟨true, hx, fun _ a ha => ⟨⟨c, hc, rfl, rfl, hq⟩, ?_⟩, fun z => by cases z⟩
  rw [List.getElem?_set_self hi]
theorem ss_tryT {i k kw n : Nat} {es : List Expr} {a : Expr} {h : Ev → R (List D)} {gr : List D → R D} {z f x xs e : Str} {p p1 p2 p3 p4 p5 p6 p7 p8 p9 q : Pos} {j1 j2 : Nat} {x1 x2} {fpos : Pos} {sp : Pos}
    (cf : Cal X.prog X.w X.K X.mg X.base C f k n gr) (cw : CalW X.prog X.w X.K X.mg X.base C x kw) (hx : ExmAt X.K X.mg C xs) (hr : Room k X.A) (hrw : Room kw X.A) (ha : SAt X (a :: es) h) (pv : ∀ b oe pn, PE (X.suite b ((b, oe) :: pn)) (.Name e q) (tVar i)) (hN : X.N.Nodup)
    (hs : X.stack = X.env :: X.outer := by rfl) (hf : X.env.frame = some X.env.locals := by rfl) (hi : X.N[i]? = some e := by rfl) (hln : X.env.kindOf e = some .local := by rfl)
    (hgf : Gl X f := by rfl) (hgx : Gl X x := by rfl) (hgs : Gl X xs := by rfl) (hlen : n = es.length + 1 := by rfl) (hdf : (f == ("__debug__" : Str)) = false := by decide) (hdx : (x == ("__debug__" : Str)) = false := by decide) (hds : (xs == ("__debug__" : Str)) = false := by decide)
    (he : starEach [.Name e q] X.env = (false, eval (.Name e q) X.env) :: starEach [] X.env := by rfl) (hpl : (backTo p2 (starEach [] X.env)).any (·.1) = false := by rfl)
    (he2 : starEach (a :: es) X.env = (false, eval a X.env) :: starEach es X.env := by rfl) (hpl2 : (backTo fpos (starEach es X.env)).any (·.1) = false := by rfl)
    (g1 : starEach [.Constant (.str z) j1 p6, .Call (.Name f p3) (a :: es) [] fpos] X.env = (false, eval (.Constant (.str z) j1 p6) X.env) :: starEach [.Call (.Name f p3) (a :: es) [] fpos] X.env := by rfl) (g2 : starEach [.Call (.Name f p3) (a :: es) [] fpos] X.env = (false, eval (.Call (.Name f p3) (a :: es) [] fpos) X.env) :: starEach [] X.env := by rfl)
    (g3 : starEach [.Call (.Name x p) [.Name e q] [] p2, .Constant (.bool true) j2 p8] X.env = (false, eval (.Call (.Name x p) [.Name e q] [] p2) X.env) :: starEach [.Constant (.bool true) j2 p8] X.env := by rfl) (g4 : starEach [.Constant (.bool true) j2 p8] X.env = (false, eval (.Constant (.bool true) j2 p8) X.env) :: starEach [] X.env := by rfl) :
    SS X EX C (.Try [.Return (some (.Tuple [.Constant (.str z) j1 p6, .Call (.Name f p3) (a :: es) [] fpos] x1 p7)) sp] [.ExceptHandler (some (.Name xs p4)) (some e) [.Return (some (.Tuple [.Call (.Name x p) [.Name e q] [] p2, .Constant (.bool true) j2 p8] x2 p9)) p1] p5] [] [] pos) (tryTO i z gr h) := by
  obtain ⟨cs, hms, hex⟩ := hx
  obtain ⟨fa, fd, ps, l1, F, hm, hk, hb⟩ := cf
  obtain ⟨ta, pa, qa, la, na⟩ := ha
  refine ⟨_, L2N.ps_try_as (i := i) (c := .ref cs) (Wout := fun _ _ _ _ => False) (tb := fun W => tRet (tTup (tCons (tC (.str z)) (tCons (tCallS (spR X.K C n gr) (WE W) ta) tNil)))) (ts := tsWT C i) hs hf hN hi hln ⟨hgs, hds, .inl hms⟩ takes0N ?_ ?_, fun F1 σ H ρ D er w => ?_⟩
  · intro W pn xe tk _
    exact pss_one (ps_ret (pe_tup (pa_cons pe_str (pa_cons (pe_callS (X := X.tr pn xe) F hr hgf hm hk hb (fun σ => L2N.passAt tk σ) (pa pn xe) hdf he2 hpl2) pa_nil g2) g1)))
  · intro b oe cls d pn hz hfl
    exact suiteWT cw hrw hz hfl hgx (pv b oe pn) hdx he hpl g3 g4
  · show ta σ H _
    unfold tryTO at w
    cases hh : h ρ with
    | stuck => rw [hh] at w; exact (show False from w).elim
    | raise c => exact absurd hh (na ρ c)
    | ok ds =>
      rw [hh] at w
      refine qa F1 σ H ρ ds _ er hh fun vs H1 s1 r1 => ?_
      refine ⟨ds, by rw [RDs.length r1, la ρ ds hh, hlen]; rfl, r1, ?_⟩
      simp only [R.ok_bind] at w
      cases hg : gr ds with
      | ok d =>
        rw [hg] at w
        intro v H2 s2 r2
        cases d with
        | t y =>
          have r2' : RT X.K H2 y v := r2
          refine ⟨by rw [sizeLine_eq]; simp, fun p hp => w _ _ (er.same.trans (s1.trans (s2.trans (same_new hp _)))) ?_⟩
          exact (new_tup hp (RTs.cons (by unfold RT; rfl) (RTs.cons r2' RTs.nil))).less (er.same.trans (s1.trans s2))
        | _ => exact (show False from w).elim
      | raise c =>
        rw [hg] at w
        intro H2 s2
        by_cases hc : c < 3 ∧ i < ρ.length
        · simp only [if_pos hc] at w
          refine wx_wordT (by rw [er.len]; exact hc.2) (hex c hc.1) hc.1 fun H3 p s3 hp => w _ _ (er.same.trans (s1.trans (s2.trans (s3.trans (same_new hp _))))) ?_
          exact (new_tup hp (RTs.cons (by unfold RT; rfl) (RTs.cons (by unfold RT; rfl) RTs.nil))).less (er.same.trans (s1.trans (s2.trans s3)))
        · simp only [if_neg hc] at w
          exact (show False from w).elim
      | stuck => rw [hg] at w; exact (show False from w).elim
end
/-! ## for sign in text -/
section
variable {X : Cx} {EX : XK} {C : Nat → Addr} {f : Ev → R D} {pos : Pos}
theorem for_str {z : Str} {g : TG} {tb : TS} {D : Ends} {σ : L2.St} {H : Hp} (Pv : Nat → L2.St → Hp → Prop) (h0 : Pv 0 σ H)
    (hs : ∀ i c σ H, z.cps[i]? = some c → Pv i σ H → g (.str ⟨#[c]⟩) σ H fun σ2 H2 => tb { D with nx := Pv (i + 1), ct := Pv (i + 1), bk := D.nx } σ2 H2) (hd : ∀ σ H, Pv z.cps.size σ H → D.nx σ H) :
    ∃ W : Nat → Nat → L2.St → Hp → Prop, (∃ m, W 0 m σ H) ∧ ∀ i m σ H, W i m σ H →
      ((Its z).stop i H ∧ D.nx σ H) ∨ ((Its z).go i H ∧ ∃ N : L2.St → Hp → Prop, (∀ σ' H', N σ' H' → ∃ m', m' < m ∧ W (i + 1) m' σ' H') ∧ ∀ x H', (Its z).yld i H x H' → g x σ H' fun σ2 H2 => tb { D with nx := N, ct := N, bk := D.nx } σ2 H2) := by
  refine ⟨fun i m σ H => m = z.cps.size - i ∧ i ≤ z.cps.size ∧ Pv i σ H, ⟨z.cps.size, rfl, Nat.zero_le _, h0⟩, fun i m σ H ⟨hm, hi, p⟩ => ?_⟩
  by_cases h : i < z.cps.size
  · refine .inr ⟨h, Pv (i + 1), fun σ' H' q => ⟨z.cps.size - (i + 1), by omega, rfl, h, q⟩, fun x H' y => ?_⟩
    obtain ⟨rfl, c, hc, rfl⟩ := y
    exact hs i c σ H' hc p
  · have e : i = z.cps.size := by omega
    exact .inl ⟨by show z.cps.size ≤ i; omega, hd σ H (e ▸ p)⟩
theorem ss_forS {j : Nat} {tg e : Expr} {sts : List Stmt} {body : Ev → R Out} (hp : PassesOwn (model X.prog X.w) X.A X.env X.xe) (hc : X.calm = true) (he : SE X EX C e f) (hg : PG X tg (gName j)) (hb : SB X EX C sts body)
    (hs : ∀ x, foldedSetIterable e X.env x = pure x := by intro _; rfl) : SS X EX C (.For tg e sts [] pos) (forSO j f body) := by
  obtain ⟨te, pe, qe⟩ := he
  obtain ⟨tb, pb, qb⟩ := hb
  refine ⟨_, ps_for hp hc (pi_str pe) hg pb hs, fun F σ H ρ D er w => ?_⟩
  refine qe F σ H ρ _ er ((WS.bind w er.same).imp fun d _ k v H1 s1 r1 => ?_)
  cases d with
  | t x =>
    cases x with
    | str z =>
      refine ⟨z, rt_str r1, ?_⟩
      have hlen : (signs z).length = z.cps.size := by unfold signs; simp
      refine for_str (Pf X.K EX C F H1 D j body (signs z)) ⟨F, ρ, Same.refl F, TupLe.refl H1, er.mono s1, WS.grow k (Same.refl F) (Same.tups s1)⟩ (fun i c σ' H' hu p => ?_) (fun σ' H' p => pf_end p (by rw [hlen]; exact Nat.le_refl _))
      have hy : (signs z)[i]? = some (.str ⟨#[c]⟩) := by
        unfold signs
        rw [List.getElem?_map, Array.getElem?_toList, hu]; rfl
      exact pf_turn qb p hy (by unfold RT; rfl)
    | _ => exact k.elim
  | _ => exact k.elim
end
end Pf

set_option Elab.async false
set_option linter.all false
set_option maxRecDepth 100000
set_option maxHeartbeats 4000000
namespace Pf
open PySem L2
noncomputable section
def g_made : Ev → R Out :=
  (seqO (setO 2 kD)
  (seqO (forNO 3 1 (dputO 2 (b2 ixD (rdE 3) (kI 0)) (b2 addD (dg2 (rdE 2) (b2 ixD (rdE 3) (kI 0)) (kI 0)) (b2 ixD (rdE 3) (kI 1)))))
  (retO (ap mkTup (cA (rdE 0) (cA (ap tupleD (cA (lcN 4 (ap sortedD (cA (rdE 2) nA)) selL (tV (b2 neD (b2 dgetD (rdE 2) (rdE 4)) (kI 0))) (ap mkTup (cA (rdE 4) (cA (b2 dgetD (rdE 2) (rdE 4)) nA)))) nA)) nA))))))
def m_made : List D → R D := runDef 3 g_made
def g_share : Ev → R Out :=
  (seqO (forTO 2 (b2 ixD (rdE 0) (kI 1)) (ifO (tV (b2 eqD (b2 ixD (rdE 2) (kI 0)) (rdE 1))) (retO (b2 ixD (rdE 2) (kI 1))) nxO))
  (retO (kI 0)))
def m_share : List D → R D := runDef 1 g_share
def g_law_cell_at : Ev → R Out :=
  (seqO (ifO (tV (b2 ltD (rdE 1) (ap lenD (cA (rdE 0) nA)))) (retO (b2 ixD (rdE 0) (rdE 1))) nxO)
  (retO (kI 0)))
def m_law_cell_at : List D → R D := runDef 0 g_law_cell_at
def g_law_whole : Ev → R Out :=
  (retO (vAnd (u1 (isiD "int") (rdE 0)) (vNot (u1 (isiD "bool") (rdE 0)))))
def m_law_whole : List D → R D := runDef 0 g_law_whole
def g_law_names_by : Ev → R Out :=
  (seqO (setO 1 (kS "abcdefghijklmnopqrstuvwxyz"))
  (seqO (setO 2 (b2 addD (kI 1) (b2 modD (rdE 0) (kI 8))))
  (seqO (setO 3 (kS ""))
  (seqO (setO 4 (rdT 0))
  (seqO (forRO 5 (cA (rdE 2) nA) rng1 (seqO (setO 4 (b2 modD (b2 addD (b2 mulD (rdE 4) (kI 48271)) (kI 11)) (kI 2147483647)))
    (setO 3 (b2 addD (rdE 3) (b2 ixD (rdE 1) (b2 modD (b2 divD (rdE 4) (kI 7)) (kI 26)))))))
  (seqO (ifO (tV (b2 eqD (b2 modD (b2 divD (rdE 0) (kI 8)) (kI 3)) (kI 2))) (retO (lcRg 5 (cA (kI 4) nA) rng1 yes (b2 mulD (sl3 (rdE 3) sN (sS (kI 1))) (b2 addD (kI 1) (b2 modD (b2 addD (rdE 5) (b2 divD (rdE 0) (kI 24))) (kI 8)))))) nxO)
  (seqO (ifO (tV (b2 inD (b2 modD (b2 divD (rdE 0) (kI 8)) (kI 9)) (ap mkLst (cA (kI 1) (cA (kI 4) (cA (kI 7) nA)))))) (seqO (setO 7 (ap mkLst (cA (kS "new") (cA (kS "k") (cA (kS "t") (cA (kS "x") (cA (kS "y") (cA (kS "z") (cA (kS "step") (cA (kS "size") (cA (kS "bound") (cA (kS "some") (cA (kS "and") (cA (kS "above") (cA (kS "nought") (cA (kS "goes") nA))))))))))))))))
    (seqO (setO 7 (b2 addD (rdE 7) (ap mkLst (cA (kS "not") (cA (kS "or") (cA (kS "all") (cA (kS "far") (cA (kS "low") (cA (kS "high") (cA (kS "name") (cA (kS "newone") (cA (kS "number") (cA (kS "it") (cA (kS "lined") nA))))))))))))))
    (retO (lcRg 5 (cA (kI 4) nA) rng1 yes (b2 ixD (rdE 7) (b2 modD (b2 addD (b2 divD (rdE 0) (kI 72)) (b2 ixD (ap mkLst (cA (kI 0) (cA (kI 7) (cA (kI 12) (cA (kI 18) nA))))) (rdE 5))) (kI 25))))))) nxO)
  (seqO (setO 6 (b2 modD (b2 divD (rdE 0) (kI 24)) (rdE 2)))
  (retO (lcRg 5 (cA (kI 4) nA) rng1 yes (b2 addD (b2 addD (sl3 (rdE 3) sN (sS (rdE 6))) (b2 ixD (rdE 1) (b2 modD (b2 addD (b2 divD (rdE 0) (kI 192)) (b2 mulD (kI 7) (rdE 5))) (kI 26)))) (sl3 (rdE 3) (sS (b2 addD (rdE 6) (kI 1))) sN))))))))))))
def m_law_names_by : List D → R D := runDef 7 g_law_names_by
def g_law_big_by : Ev → R Out :=
  (seqO (ifO (tV (b2 gtD (b2 modD (rdE 0) (kI 4)) (kI 0))) (retO (b2 subD (b2 modD (b2 divD (rdE 0) (kI 4)) (kI 19)) (kI 9))) nxO)
  (seqO (setO 1 (kI 0))
  (seqO (setO 2 (rdT 0))
  (seqO (forRO 3 (cA (b2 addD (kI 1) (b2 modD (b2 divD (rdE 0) (kI 8)) (kI 60))) nA) rng1 (seqO (setO 2 (b2 modD (b2 addD (b2 mulD (rdE 2) (kI 48271)) (kI 11)) (kI 2147483647)))
    (setO 1 (b2 addD (b2 mulD (rdE 1) (kI 10)) (b2 modD (b2 divD (rdE 2) (kI 7)) (kI 10))))))
  (retO (b2 mulD (b2 ixD (ap mkLst (cA (kI 1) (cA (u1 negD (kI 1)) nA))) (b2 modD (b2 divD (rdE 0) (kI 4)) (kI 2))) (rdE 1)))))))
def m_law_big_by : List D → R D := runDef 3 g_law_big_by
def g_law_alike (rec : List D → R D) : Ev → R Out :=
  (seqO (ifO (tV (b2 isD (rdE 1) kN)) (retO (b2 isD (rdE 0) kN)) nxO)
  (seqO (ifO (tV (b2 isD (rdE 1) (kB true))) (retO (b2 isD (rdE 0) (kB true))) nxO)
  (seqO (ifO (tV (u1 (isiD "str") (rdE 1))) (retO (vAnd (u1 (isiD "str") (rdE 0)) (b2 eqD (rdE 0) (rdE 1)))) nxO)
  (seqO (ifO (tV (u1 (isiD "int") (rdE 1))) (retO (vAnd (ap m_law_whole (cA (rdE 0) nA)) (b2 eqD (rdE 0) (rdE 1)))) nxO)
  (seqO (ifO (tAnd2 (tV (u1 (isiD "tuple") (rdE 1))) (tNot1 (tV (u1 (isiD "tuple") (rdE 0))))) (retO (kB false)) nxO)
  (seqO (ifO (tAnd2 (tV (u1 (isiD "list") (rdE 1))) (tNot1 (tV (u1 (isiD "list") (rdE 0))))) (retO (kB false)) nxO)
  (seqO (ifO (tV (b2 neD (ap lenD (cA (rdE 0) nA)) (ap lenD (cA (rdE 1) nA)))) (retO (kB false)) nxO)
  (seqO (forRO 2 (cA (ap lenD (cA (rdE 1) nA)) nA) rng1 (ifO (tNot1 (tV (ap rec (cA (b2 ixD (rdE 0) (rdE 2)) (cA (b2 ixD (rdE 1) (rdE 2)) nA))))) (retO (kB false)) nxO))
  (retO (kB true))))))))))
def m_law_alike : Nat → List D → R D
  | 0 => fun _ => .stuck
  | n + 1 => runDef 1 (g_law_alike (m_law_alike n))
def g_added : Ev → R Out :=
  (retO (ap m_made (cA (b2 addD (b2 ixD (rdE 0) (kI 0)) (b2 ixD (rdE 1) (kI 0))) (cA (b2 addD (ap listD (cA (b2 ixD (rdE 0) (kI 1)) nA)) (ap listD (cA (b2 ixD (rdE 1) (kI 1)) nA))) nA))))
def m_added : List D → R D := runDef 0 g_added
def g_times : Ev → R Out :=
  (retO (ap m_made (cA (b2 mulD (rdE 0) (b2 ixD (rdE 1) (kI 0))) (cA (lcN 2 (b2 ixD (rdE 1) (kI 1)) selT yes (ap mkTup (cA (b2 ixD (rdE 2) (kI 0)) (cA (b2 mulD (rdE 0) (b2 ixD (rdE 2) (kI 1))) nA)))) nA))))
def m_times : List D → R D := runDef 1 g_times
def g_without : Ev → R Out :=
  (retO (ap mkTup (cA (b2 ixD (rdE 0) (kI 0)) (cA (ap tupleD (cA (lcN 2 (b2 ixD (rdE 0) (kI 1)) selT (tV (b2 neD (b2 ixD (rdE 2) (kI 0)) (rdE 1))) (rdT 2)) nA)) nA))))
def m_without : List D → R D := runDef 1 g_without
def g_put_in : Ev → R Out :=
  (retO (ap m_added (cA (ap m_without (cA (rdE 0) (cA (rdE 1) nA))) (cA (ap m_times (cA (ap m_share (cA (rdE 0) (cA (rdE 1) nA))) (cA (rdE 2) nA))) nA))))
def m_put_in : List D → R D := runDef 0 g_put_in
def g_value : Ev → R Out :=
  (seqO (setO 2 (b2 ixD (rdE 0) (kI 0)))
  (seqO (forTO 3 (b2 ixD (rdE 0) (kI 1)) (seqO (ifO (tV (b2 ninD (b2 ixD (rdE 3) (kI 0)) (rdE 1))) (raiseO 0) nxO)
    (setO 2 (b2 addD (rdE 2) (b2 mulD (b2 ixD (rdE 3) (kI 1)) (b2 dgetD (rdE 1) (b2 ixD (rdE 3) (kI 0))))))))
  (retN 2)))
def m_value : List D → R D := runDef 2 g_value
def g_law_sum_by : Ev → R Out :=
  (seqO (setO 3 (rdT 0))
  (seqO (setO 4 (ap mkLst nA))
  (seqO (forLO 5 (ap sortedD (cA (rdE 1) nA)) (seqO (setO 3 (b2 modD (b2 addD (b2 mulD (rdE 3) (kI 48271)) (kI 11)) (kI 2147483647)))
    (seqO (setO 6 (b2 subD (b2 modD (b2 divD (rdE 3) (kI 7)) (b2 addD (b2 mulD (kI 2) (rdE 2)) (kI 1))) (rdE 2)))
    (ifO (tV (b2 neD (rdE 6) (kI 0))) (appO 4 (ap mkTup (cA (rdE 5) (cA (rdE 6) nA)))) nxO))))
  (seqO (setO 3 (b2 modD (b2 addD (b2 mulD (rdE 3) (kI 48271)) (kI 11)) (kI 2147483647)))
  (retO (ap mkTup (cA (b2 subD (b2 modD (b2 divD (rdE 3) (kI 7)) (kI 19)) (kI 9)) (cA (ap tupleD (cA (rdE 4) nA)) nA))))))))
def m_law_sum_by : List D → R D := runDef 4 g_law_sum_by
def g_law_value : Ev → R Out :=
  (seqO (setO 2 (b2 ixD (rdE 0) (kI 0)))
  (seqO (forTO 3 (b2 ixD (rdE 0) (kI 1)) (setO 2 (b2 addD (rdE 2) (b2 mulD (b2 ixD (rdE 3) (kI 1)) (b2 dgetD (rdE 1) (b2 ixD (rdE 3) (kI 0)))))))
  (retN 2)))
def m_law_value : List D → R D := runDef 2 g_law_value
def g_law_sum_is : Ev → R Out :=
  (seqO (ifO (tOr2 (tNot1 (tV (u1 (isiD "tuple") (rdE 0)))) (tOr2 (tV (b2 neD (ap lenD (cA (rdE 0) nA)) (kI 2))) (tOr2 (tNot1 (tV (ap m_law_whole (cA (b2 ixD (rdE 0) (kI 0)) nA)))) (tNot1 (tV (u1 (isiD "tuple") (b2 ixD (rdE 0) (kI 1)))))))) (retO (kB false)) nxO)
  (seqO (setO 2 (kS ""))
  (seqO (forTO 3 (b2 ixD (rdE 0) (kI 1)) (seqO (ifO (tOr2 (tNot1 (tV (u1 (isiD "tuple") (rdE 3)))) (tOr2 (tV (b2 neD (ap lenD (cA (rdE 3) nA)) (kI 2))) (tNot1 (tV (u1 (isiD "str") (b2 ixD (rdE 3) (kI 0))))))) (retO (kB false)) nxO)
    (seqO (ifO (tOr2 (tNot1 (tV (ap m_law_whole (cA (b2 ixD (rdE 3) (kI 1)) nA)))) (tOr2 (tV (b2 eqD (b2 ixD (rdE 3) (kI 1)) (kI 0))) (tOr2 (tV (b2 leD (b2 ixD (rdE 3) (kI 0)) (rdE 2))) (tV (b2 ninD (b2 ixD (rdE 3) (kI 0)) (rdE 1)))))) (retO (kB false)) nxO)
    (setO 2 (b2 ixD (rdE 3) (kI 0))))))
  (retO (kB true)))))
def m_law_sum_is : List D → R D := runDef 2 g_law_sum_is
def g_is_plain (rec : List D → R D) : Ev → R Out :=
  (seqO (setO 1 (b2 ixD (rdE 0) (kI 0)))
  (seqO (ifO (tV (b2 eqD (rdE 1) (kS "not"))) (retO (ap rec (cA (b2 ixD (rdE 0) (kI 1)) nA))) nxO)
  (seqO (ifO (tOr2 (tV (b2 eqD (rdE 1) (kS "and"))) (tV (b2 eqD (rdE 1) (kS "or")))) (forTO 2 (b2 ixD (rdE 0) (kI 1)) (ifO (tNot1 (tV (ap rec (cA (rdE 2) nA)))) (retO (kB false)) nxO)) nxO)
  (retO (vAnd (b2 neD (rdE 1) (kS "some")) (b2 neD (rdE 1) (kS "all")))))))
def m_is_plain : Nat → List D → R D
  | 0 => fun _ => .stuck
  | n + 1 => runDef 2 (g_is_plain (m_is_plain n))
def g_need_plain : Ev → R Out :=
  (ifO (tNot1 (tV (ap (m_is_plain 60) (cA (rdE 0) nA)))) (raiseO 1) nxO)
def m_need_plain : List D → R D := runDef 0 g_need_plain
def g_free_in (rec : List D → R D) : Ev → R Out :=
  (seqO (setO 2 (b2 ixD (rdE 0) (kI 0)))
  (seqO (ifO (tV (b2 eqD (rdE 2) (kS "not"))) (retO (ap rec (cA (b2 ixD (rdE 0) (kI 1)) (cA (rdE 1) nA)))) nxO)
  (seqO (ifO (tOr2 (tV (b2 eqD (rdE 2) (kS "some"))) (tV (b2 eqD (rdE 2) (kS "all")))) (retO (ap rec (cA (b2 ixD (rdE 0) (kI 2)) (cA (b2 addD (rdE 1) (ap mkLst (cA (b2 ixD (rdE 0) (kI 1)) nA))) nA)))) nxO)
  (seqO (ifO (tOr2 (tV (b2 eqD (rdE 2) (kS "and"))) (tV (b2 eqD (rdE 2) (kS "or")))) (seqO (setO 3 (ap mkLst nA))
    (seqO (forTO 4 (b2 ixD (rdE 0) (kI 1)) (extO 3 (ap rec (cA (rdE 4) (cA (rdE 1) nA)))))
    (retN 3))) nxO)
  (retO (lcN 5 (b2 ixD (b2 ixD (rdE 0) (u1 negD (kI 1))) (kI 1)) selT (tV (b2 ninD (b2 ixD (rdE 5) (kI 0)) (rdE 1))) (b2 ixD (rdE 5) (kI 0))))))))
def m_free_in : Nat → List D → R D
  | 0 => fun _ => .stuck
  | n + 1 => runDef 4 (g_free_in (m_free_in n))
def g_unknowns : Ev → R Out :=
  (retO (u1 ssetD (ap (m_free_in 60) (cA (rdE 0) (cA (ap mkLst nA) nA)))))
def m_unknowns : List D → R D := runDef 0 g_unknowns
def g_need_values : Ev → R Out :=
  (forNO 2 0 (ifO (tV (b2 ninD (rdE 2) (rdE 1))) (raiseO 0) nxO))
def m_need_values : List D → R D := runDef 1 g_need_values
def g_truth (rec : List D → R D) : Ev → R Out :=
  (seqO (setO 2 (b2 ixD (rdE 0) (kI 0)))
  (seqO (ifO (tV (b2 eqD (rdE 2) (kS "not"))) (retO (vNot (ap rec (cA (b2 ixD (rdE 0) (kI 1)) (cA (rdE 1) nA))))) nxO)
  (seqO (ifO (tV (b2 eqD (rdE 2) (kS "and"))) (seqO (forTO 4 (b2 ixD (rdE 0) (kI 1)) (ifO (tNot1 (tV (ap rec (cA (rdE 4) (cA (rdE 1) nA))))) (retO (kB false)) nxO))
    (retO (kB true))) nxO)
  (seqO (ifO (tV (b2 eqD (rdE 2) (kS "or"))) (seqO (forTO 4 (b2 ixD (rdE 0) (kI 1)) (ifO (tV (ap rec (cA (rdE 4) (cA (rdE 1) nA)))) (retO (kB true)) nxO))
    (retO (kB false))) nxO)
  (seqO (setO 3 (ap m_value (cA (b2 ixD (rdE 0) (u1 negD (kI 1))) (cA (rdE 1) nA))))
  (seqO (ifO (tV (b2 eqD (rdE 2) (kS "goes"))) (retO (b2 eqD (b2 modD (rdE 3) (b2 ixD (rdE 0) (kI 1))) (kI 0))) nxO)
  (seqO (ifO (tV (b2 eqD (rdE 2) (kS "above"))) (retO (b2 gtD (rdE 3) (kI 0))) nxO)
  (retO (b2 eqD (rdE 3) (kI 0))))))))))
def m_truth : Nat → List D → R D
  | 0 => fun _ => .stuck
  | n + 1 => runDef 3 (g_truth (m_truth n))
def g_is_true : Ev → R Out :=
  (seqO (exprO (ap m_need_plain (cA (rdE 0) nA)))
  (seqO (exprO (ap m_need_values (cA (ap m_unknowns (cA (rdE 0) nA)) (cA (rdE 1) nA))))
  (retO (ap (m_truth 60) (cA (rdE 0) (cA (rdE 1) nA))))))
def m_is_true : List D → R D := runDef 0 g_is_true
def g_law_end_by : Ev → R Out :=
  (seqO (setO 4 (ap m_law_sum_by (cA (b2 divD (rdE 0) (kI 12)) (cA (rdE 1) (cA (rdE 2) nA)))))
  (seqO (ifO (tV (b2 eqD (b2 modD (rdE 0) (kI 4)) (kI 3))) (retO (ap mkTup (cA (kS "nought") (cA (rdE 4) nA)))) nxO)
  (seqO (ifO (tV (b2 eqD (b2 modD (rdE 0) (kI 4)) (kI 2))) (retO (ap mkTup (cA (kS "goes") (cA (b2 addD (kI 1) (b2 modD (b2 divD (rdE 0) (kI 4)) (rdE 3))) (cA (rdE 4) nA))))) nxO)
  (retO (ap mkTup (cA (kS "above") (cA (rdE 4) nA)))))))
def m_law_end_by : List D → R D := runDef 1 g_law_end_by
def g_law_plain_by : Ev → R Out :=
  (seqO (setO 6 (ap m_law_cell_at (cA (rdE 0) (cA (rdE 1) nA))))
  (seqO (ifO (tV (b2 eqD (b2 modD (rdE 6) (kI 26)) (kI 25))) (retO (ap mkTup (cA (kS "and") (cA (ap mkTup nA) nA)))) nxO)
  (seqO (ifO (tV (b2 eqD (b2 modD (rdE 6) (kI 13)) (kI 12))) (setO 3 (ap mkLst nA)) nxO)
  (seqO (setO 7 (ap m_law_end_by (cA (rdE 6) (cA (rdE 3) (cA (rdE 4) (cA (rdE 5) nA))))))
  (seqO (forRO 8 (cA (kI 1) (cA (rdE 2) nA)) rng2 (seqO (setO 9 (b2 addD (ap m_law_cell_at (cA (rdE 0) (cA (b2 addD (rdE 1) (rdE 8)) nA))) (b2 mulD (kI 104729) (rdE 8))))
    (seqO (setO 10 (ap m_law_end_by (cA (b2 divD (rdE 9) (kI 9)) (cA (rdE 3) (cA (rdE 4) (cA (rdE 5) nA))))))
    (seqO (setO 11 (b2 modD (rdE 9) (kI 9)))
    (seqO (ifO (tV (b2 ltD (rdE 11) (kI 2))) (setO 7 (ap mkTup (cA (b2 ixD (ap mkLst (cA (kS "and") (cA (kS "or") nA))) (rdE 11)) (cA (ap mkTup (cA (rdE 7) (cA (rdE 10) nA))) nA)))) nxO)
    (seqO (ifO (tV (b2 eqD (rdE 11) (kI 2))) (setO 7 (ap mkTup (cA (kS "or") (cA (ap mkTup (cA (ap mkTup (cA (kS "not") (cA (rdE 7) nA))) (cA (rdE 10) nA))) nA)))) nxO)
    (seqO (ifO (tV (b2 eqD (rdE 11) (kI 3))) (setO 7 (ap mkTup (cA (kS "not") (cA (ap mkTup (cA (kS "and") (cA (ap mkTup (cA (rdE 10) (cA (rdE 7) (cA (ap mkTup (cA (kS "and") (cA (ap mkTup nA) nA))) nA)))) nA))) nA)))) nxO)
    (seqO (ifO (tV (b2 eqD (rdE 11) (kI 4))) (setO 7 (ap mkTup (cA (kS "and") (cA (ap mkTup (cA (ap mkTup (cA (kS "or") (cA (ap mkTup (cA (rdE 10) (cA (rdE 7) nA))) nA))) (cA (ap mkTup (cA (kS "not") (cA (rdE 10) nA))) nA))) nA)))) nxO)
    (seqO (ifO (tV (b2 eqD (rdE 11) (kI 5))) (setO 7 (ap mkTup (cA (kS "or") (cA (ap mkTup (cA (rdE 10) (cA (ap mkTup (cA (kS "or") (cA (ap mkTup nA) nA))) (cA (rdE 7) nA)))) nA)))) nxO)
    (seqO (ifO (tV (b2 eqD (rdE 11) (kI 6))) (setO 7 (ap mkTup (cA (kS "and") (cA (ap mkTup (cA (ap mkTup (cA (kS "not") (cA (ap mkTup (cA (kS "not") (cA (rdE 7) nA))) nA))) (cA (ap mkTup (cA (kS "not") (cA (rdE 10) nA))) nA))) nA)))) nxO)
    (seqO (ifO (tV (b2 eqD (rdE 11) (kI 7))) (setO 7 (ap mkTup (cA (kS "and") (cA (ap mkTup (cA (ap mkTup (cA (kS "or") (cA (ap mkTup (cA (rdE 7) nA)) nA))) (cA (ap mkTup (cA (kS "or") (cA (ap mkTup (cA (ap mkTup (cA (kS "and") (cA (ap mkTup (cA (rdE 10) nA)) nA))) nA)) nA))) nA))) nA)))) nxO)
    (ifO (tV (b2 eqD (rdE 11) (kI 8))) (setO 7 (ap mkTup (cA (b2 ixD (ap mkLst (cA (kS "and") (cA (kS "or") nA))) (b2 modD (b2 divD (rdE 9) (kI 9)) (kI 2))) (cA (b2 addD (ap mkTup (cA (rdE 10) (cA (rdE 10) (cA (rdE 7) nA)))) (b2 mulD (ap mkTup (cA (rdE 10) nA)) (b2 addD (kI 1) (b2 modD (b2 divD (rdE 9) (kI 18)) (kI 18))))) nA)))) nxO))))))))))))
  (retN 7))))))
def m_law_plain_by : List D → R D := runDef 6 g_law_plain_by
def g_law_true (rec : List D → R D) : Ev → R Out :=
  (seqO (setO 2 (b2 ixD (rdE 0) (kI 0)))
  (seqO (ifO (tV (b2 eqD (rdE 2) (kS "not"))) (retO (vNot (ap rec (cA (b2 ixD (rdE 0) (kI 1)) (cA (rdE 1) nA))))) nxO)
  (seqO (ifO (tOr2 (tV (b2 eqD (rdE 2) (kS "and"))) (tV (b2 eqD (rdE 2) (kS "or")))) (seqO (forTO 4 (b2 ixD (rdE 0) (kI 1)) (ifO (tV (b2 eqD (ap rec (cA (rdE 4) (cA (rdE 1) nA))) (b2 eqD (rdE 2) (kS "or")))) (retO (b2 eqD (rdE 2) (kS "or"))) nxO))
    (retO (b2 eqD (rdE 2) (kS "and")))) nxO)
  (seqO (setO 3 (ap m_law_value (cA (b2 ixD (rdE 0) (u1 negD (kI 1))) (cA (rdE 1) nA))))
  (seqO (ifO (tV (b2 eqD (rdE 2) (kS "goes"))) (retO (b2 eqD (b2 modD (rdE 3) (b2 ixD (rdE 0) (kI 1))) (kI 0))) nxO)
  (seqO (ifO (tV (b2 eqD (rdE 2) (kS "above"))) (retO (b2 gtD (rdE 3) (kI 0))) nxO)
  (retO (b2 eqD (rdE 3) (kI 0)))))))))
def m_law_true : Nat → List D → R D
  | 0 => fun _ => .stuck
  | n + 1 => runDef 3 (g_law_true (m_law_true n))
def g_law_free (rec : List D → R D) : Ev → R Out :=
  (seqO (setO 2 (b2 ixD (rdE 0) (kI 0)))
  (seqO (ifO (tV (b2 eqD (rdE 2) (kS "not"))) (retO (ap rec (cA (b2 ixD (rdE 0) (kI 1)) (cA (rdE 1) nA)))) nxO)
  (seqO (ifO (tOr2 (tV (b2 eqD (rdE 2) (kS "some"))) (tV (b2 eqD (rdE 2) (kS "all")))) (retO (ap rec (cA (b2 ixD (rdE 0) (kI 2)) (cA (b2 addD (rdE 1) (ap mkLst (cA (b2 ixD (rdE 0) (kI 1)) nA))) nA)))) nxO)
  (seqO (ifO (tOr2 (tV (b2 eqD (rdE 2) (kS "and"))) (tV (b2 eqD (rdE 2) (kS "or")))) (seqO (setO 3 (ap mkLst nA))
    (seqO (forTO 4 (b2 ixD (rdE 0) (kI 1)) (setO 3 (b2 addD (rdE 3) (lcN 6 (ap rec (cA (rdE 4) (cA (rdE 1) nA))) selL (tV (b2 ninD (rdE 6) (rdE 3))) (rdT 6)))))
    (retN 3))) nxO)
  (retO (lcN 5 (b2 ixD (b2 ixD (rdE 0) (u1 negD (kI 1))) (kI 1)) selT (tV (b2 ninD (b2 ixD (rdE 5) (kI 0)) (rdE 1))) (b2 ixD (rdE 5) (kI 0))))))))
def m_law_free : Nat → List D → R D
  | 0 => fun _ => .stuck
  | n + 1 => runDef 5 (g_law_free (m_law_free n))
def g_law_bound_by : Ev → R Out :=
  (seqO (setO 3 (ap mkTup (cA (b2 ixD (ap mkLst (cA (kS "some") (cA (kS "all") nA))) (b2 modD (rdE 0) (kI 2))) (cA (b2 ixD (rdE 2) (b2 modD (b2 divD (rdE 0) (kI 2)) (kI 4))) (cA (rdE 1) nA)))))
  (seqO (setO 4 (b2 modD (b2 divD (rdE 0) (kI 8)) (kI 4)))
  (seqO (ifO (tV (b2 eqD (rdE 4) (kI 0))) (retN 3) nxO)
  (seqO (ifO (tV (b2 eqD (rdE 4) (kI 1))) (retO (ap mkTup (cA (kS "not") (cA (rdE 3) nA)))) nxO)
  (seqO (ifO (tV (b2 eqD (rdE 4) (kI 2))) (retO (ap mkTup (cA (kS "and") (cA (ap mkTup (cA (rdE 1) (cA (rdE 3) nA))) nA)))) nxO)
  (retO (ap mkTup (cA (kS "or") (cA (ap mkTup (cA (ap mkTup (cA (kS "and") (cA (ap mkTup nA) nA))) (cA (ap mkTup (cA (kS "not") (cA (ap mkTup (cA (kS "or") (cA (ap mkTup (cA (rdE 3) (cA (rdE 1) nA))) nA))) nA))) nA))) nA)))))))))
def m_law_bound_by : List D → R D := runDef 2 g_law_bound_by
def g_law_edge_by : Ev → R Out :=
  (seqO (setO 3 (ap m_law_sum_by (cA (b2 divD (rdE 0) (kI 12)) (cA (rdE 1) (cA (kI 3) nA)))))
  (seqO (setO 3 (ap mkTup (cA (b2 subD (b2 addD (b2 subD (b2 ixD (rdE 3) (kI 0)) (ap m_law_value (cA (rdE 3) (cA (rdE 2) nA)))) (b2 modD (rdE 0) (kI 3))) (kI 1)) (cA (b2 ixD (rdE 3) (kI 1)) nA))))
  (seqO (setO 4 (b2 ixD (ap mkLst (cA (ap mkTup (cA (kS "above") (cA (rdE 3) nA))) (cA (ap mkTup (cA (kS "nought") (cA (rdE 3) nA))) (cA (ap mkTup (cA (kS "goes") (cA (b2 addD (kI 1) (b2 modD (b2 divD (rdE 0) (kI 9)) (kI 40))) (cA (rdE 3) nA)))) nA)))) (b2 modD (b2 divD (rdE 0) (kI 3)) (kI 3))))
  (seqO (ifO (tV (b2 eqD (b2 modD (b2 divD (rdE 0) (kI 7)) (kI 2)) (kI 1))) (retO (ap mkTup (cA (kS "not") (cA (rdE 4) nA)))) nxO)
  (retN 4)))))
def m_law_edge_by : List D → R D := runDef 2 g_law_edge_by
def g_replaced (rec : List D → R D) : Ev → R Out :=
  (seqO (setO 3 (b2 ixD (rdE 0) (kI 0)))
  (seqO (ifO (tV (b2 eqD (rdE 3) (kS "not"))) (retO (ap mkTup (cA (kS "not") (cA (ap rec (cA (b2 ixD (rdE 0) (kI 1)) (cA (rdE 1) (cA (rdE 2) nA)))) nA)))) nxO)
  (seqO (ifO (tOr2 (tV (b2 eqD (rdE 3) (kS "and"))) (tV (b2 eqD (rdE 3) (kS "or")))) (retO (ap mkTup (cA (rdE 3) (cA (ap tupleD (cA (lcN 4 (b2 ixD (rdE 0) (kI 1)) selT yes (ap rec (cA (rdE 4) (cA (rdE 1) (cA (rdE 2) nA))))) nA)) nA)))) nxO)
  (seqO (ifO (tV (b2 eqD (rdE 3) (kS "goes"))) (retO (ap mkTup (cA (kS "goes") (cA (b2 ixD (rdE 0) (kI 1)) (cA (ap m_put_in (cA (b2 ixD (rdE 0) (kI 2)) (cA (rdE 1) (cA (rdE 2) nA)))) nA))))) nxO)
  (retO (ap mkTup (cA (rdE 3) (cA (ap m_put_in (cA (b2 ixD (rdE 0) (kI 1)) (cA (rdE 1) (cA (rdE 2) nA)))) nA))))))))
def m_replaced : Nat → List D → R D
  | 0 => fun _ => .stuck
  | n + 1 => runDef 2 (g_replaced (m_replaced n))
def g_put : Ev → R Out :=
  (seqO (exprO (ap m_need_plain (cA (rdE 0) nA)))
  (retO (ap (m_replaced 60) (cA (rdE 0) (cA (rdE 1) (cA (rdE 2) nA))))))
def m_put : List D → R D := runDef 0 g_put
def g_law_sum_put : Ev → R Out :=
  (seqO (setO 3 (ap sumD (cA (lcN 8 (b2 ixD (rdE 0) (kI 1)) selT (tV (b2 eqD (b2 ixD (rdE 8) (kI 0)) (rdE 1))) (b2 ixD (rdE 8) (kI 1))) nA)))
  (seqO (setO 4 (u1 ssetD (b2 addD (lcN 8 (b2 ixD (rdE 0) (kI 1)) selT yes (b2 ixD (rdE 8) (kI 0))) (lcN 8 (b2 ixD (rdE 2) (kI 1)) selT yes (b2 ixD (rdE 8) (kI 0))))))
  (seqO (setO 5 (ap mkLst nA))
  (seqO (forNO 6 4 (seqO (setO 7 (ap sumD (cA (lcN 8 (b2 ixD (rdE 0) (kI 1)) selT (tAnd2 (tV (b2 eqD (b2 ixD (rdE 8) (kI 0)) (rdE 6))) (tV (b2 neD (rdE 6) (rdE 1)))) (b2 ixD (rdE 8) (kI 1))) nA)))
    (seqO (setO 7 (b2 addD (rdE 7) (b2 mulD (rdE 3) (ap sumD (cA (lcN 8 (b2 ixD (rdE 2) (kI 1)) selT (tV (b2 eqD (b2 ixD (rdE 8) (kI 0)) (rdE 6))) (b2 ixD (rdE 8) (kI 1))) nA)))))
    (ifO (tV (b2 neD (rdE 7) (kI 0))) (appO 5 (ap mkTup (cA (rdE 6) (cA (rdE 7) nA)))) nxO))))
  (retO (ap mkTup (cA (b2 addD (b2 ixD (rdE 0) (kI 0)) (b2 mulD (rdE 3) (b2 ixD (rdE 2) (kI 0)))) (cA (ap tupleD (cA (rdE 5) nA)) nA))))))))
def m_law_sum_put : List D → R D := runDef 6 g_law_sum_put
def g_law_put (rec : List D → R D) : Ev → R Out :=
  (seqO (setO 3 (b2 ixD (rdE 0) (kI 0)))
  (seqO (ifO (tV (b2 eqD (rdE 3) (kS "not"))) (retO (ap mkTup (cA (kS "not") (cA (ap rec (cA (b2 ixD (rdE 0) (kI 1)) (cA (rdE 1) (cA (rdE 2) nA)))) nA)))) nxO)
  (seqO (ifO (tOr2 (tV (b2 eqD (rdE 3) (kS "and"))) (tV (b2 eqD (rdE 3) (kS "or")))) (retO (ap mkTup (cA (rdE 3) (cA (ap tupleD (cA (lcN 4 (b2 ixD (rdE 0) (kI 1)) selT yes (ap rec (cA (rdE 4) (cA (rdE 1) (cA (rdE 2) nA))))) nA)) nA)))) nxO)
  (retO (b2 addD (sl3 (rdE 0) sN (sS (u1 negD (kI 1)))) (ap mkTup (cA (ap m_law_sum_put (cA (b2 ixD (rdE 0) (u1 negD (kI 1))) (cA (rdE 1) (cA (rdE 2) nA)))) nA)))))))
def m_law_put : Nat → List D → R D
  | 0 => fun _ => .stuck
  | n + 1 => runDef 2 (g_law_put (m_law_put n))
def g_turned (rec : List D → R D) : Ev → R Out :=
  (seqO (setO 2 (b2 ixD (rdE 0) (kI 0)))
  (seqO (ifO (tV (b2 eqD (rdE 2) (kS "not"))) (retO (ap rec (cA (b2 ixD (rdE 0) (kI 1)) (cA (vNot (rdE 1)) nA)))) nxO)
  (seqO (ifO (tOr2 (tV (b2 eqD (rdE 2) (kS "and"))) (tV (b2 eqD (rdE 2) (kS "or")))) (seqO (setO 5 (ap tupleD (cA (lcN 6 (b2 ixD (rdE 0) (kI 1)) selT yes (ap rec (cA (rdE 6) (cA (rdE 1) nA)))) nA)))
    (seqO (ifO (tV (b2 eqD (b2 eqD (rdE 2) (kS "and")) (rdE 1))) (retO (ap mkTup (cA (kS "and") (cA (rdE 5) nA)))) nxO)
    (retO (ap mkTup (cA (kS "or") (cA (rdE 5) nA)))))) nxO)
  (seqO (ifO (tV (b2 eqD (rdE 2) (kS "goes"))) (seqO (ifO (tV (rdE 1)) (retN 0) nxO)
    (retO (ap mkTup (cA (kS "not") (cA (rdE 0) nA))))) nxO)
  (seqO (setO 3 (b2 ixD (rdE 0) (kI 1)))
  (seqO (setO 4 (ap m_times (cA (u1 negD (kI 1)) (cA (rdE 3) nA))))
  (seqO (ifO (tV (b2 eqD (rdE 2) (kS "above"))) (seqO (ifO (tV (rdE 1)) (retN 0) nxO)
    (retO (ap mkTup (cA (kS "above") (cA (ap m_added (cA (ap mkTup (cA (kI 1) (cA (ap mkTup nA) nA))) (cA (rdE 4) nA))) nA))))) nxO)
  (seqO (ifO (tV (rdE 1)) (retO (ap mkTup (cA (kS "and") (cA (ap mkTup (cA (ap mkTup (cA (kS "above") (cA (ap m_added (cA (ap mkTup (cA (kI 1) (cA (ap mkTup nA) nA))) (cA (rdE 3) nA))) nA))) (cA (ap mkTup (cA (kS "above") (cA (ap m_added (cA (ap mkTup (cA (kI 1) (cA (ap mkTup nA) nA))) (cA (rdE 4) nA))) nA))) nA))) nA)))) nxO)
  (retO (ap mkTup (cA (kS "or") (cA (ap mkTup (cA (ap mkTup (cA (kS "above") (cA (rdE 3) nA))) (cA (ap mkTup (cA (kS "above") (cA (rdE 4) nA))) nA))) nA))))))))))))
def m_turned : Nat → List D → R D
  | 0 => fun _ => .stuck
  | n + 1 => runDef 5 (g_turned (m_turned n))
def g_straight : Ev → R Out :=
  (seqO (exprO (ap m_need_plain (cA (rdE 0) nA)))
  (retO (ap (m_turned 60) (cA (rdE 0) (cA (kB true) nA)))))
def m_straight : List D → R D := runDef 0 g_straight
def g_law_plain_is (rec : List D → R D) : Ev → R Out :=
  (seqO (ifO (tOr2 (tNot1 (tV (u1 (isiD "tuple") (rdE 0)))) (tOr2 (tV (b2 ltD (ap lenD (cA (rdE 0) nA)) (kI 2))) (tNot1 (tV (u1 (isiD "str") (b2 ixD (rdE 0) (kI 0))))))) (retO (kB false)) nxO)
  (seqO (setO 2 (b2 ixD (rdE 0) (kI 0)))
  (seqO (ifO (tAnd2 (tV (b2 eqD (rdE 2) (kS "goes"))) (tV (b2 eqD (ap lenD (cA (rdE 0) nA)) (kI 3)))) (retO (vAnd (ap m_law_whole (cA (b2 ixD (rdE 0) (kI 1)) nA)) (vAnd (b2 gtD (b2 ixD (rdE 0) (kI 1)) (kI 0)) (ap m_law_sum_is (cA (b2 ixD (rdE 0) (kI 2)) (cA (rdE 1) nA)))))) nxO)
  (seqO (ifO (tV (b2 neD (ap lenD (cA (rdE 0) nA)) (kI 2))) (retO (kB false)) nxO)
  (seqO (ifO (tV (b2 eqD (rdE 2) (kS "not"))) (retO (ap rec (cA (b2 ixD (rdE 0) (kI 1)) (cA (rdE 1) nA)))) nxO)
  (seqO (ifO (tOr2 (tV (b2 eqD (rdE 2) (kS "and"))) (tV (b2 eqD (rdE 2) (kS "or")))) (seqO (ifO (tNot1 (tV (u1 (isiD "tuple") (b2 ixD (rdE 0) (kI 1))))) (retO (kB false)) nxO)
    (seqO (forTO 3 (b2 ixD (rdE 0) (kI 1)) (ifO (tNot1 (tV (ap rec (cA (rdE 3) (cA (rdE 1) nA))))) (retO (kB false)) nxO))
    (retO (kB true)))) nxO)
  (retO (vAnd (vOr (b2 eqD (rdE 2) (kS "above")) (b2 eqD (rdE 2) (kS "nought"))) (ap m_law_sum_is (cA (b2 ixD (rdE 0) (kI 1)) (cA (rdE 1) nA)))))))))))
def m_law_plain_is : Nat → List D → R D
  | 0 => fun _ => .stuck
  | n + 1 => runDef 2 (g_law_plain_is (m_law_plain_is n))
def g_law_straight_is (rec : List D → R D) : Ev → R Out :=
  (seqO (setO 1 (b2 ixD (rdE 0) (kI 0)))
  (seqO (ifO (tOr2 (tV (b2 eqD (rdE 1) (kS "and"))) (tV (b2 eqD (rdE 1) (kS "or")))) (seqO (forTO 2 (b2 ixD (rdE 0) (kI 1)) (ifO (tNot1 (tV (ap rec (cA (rdE 2) nA)))) (retO (kB false)) nxO))
    (retO (kB true))) nxO)
  (seqO (ifO (tV (b2 eqD (rdE 1) (kS "not"))) (retO (b2 eqD (b2 ixD (b2 ixD (rdE 0) (kI 1)) (kI 0)) (kS "goes"))) nxO)
  (retO (vOr (b2 eqD (rdE 1) (kS "above")) (b2 eqD (rdE 1) (kS "goes")))))))
def m_law_straight_is : Nat → List D → R D
  | 0 => fun _ => .stuck
  | n + 1 => runDef 2 (g_law_straight_is (m_law_straight_is n))
def g_parts_of : Ev → R Out :=
  (seqO (ifO (tV (b2 eqD (b2 ixD (rdE 0) (kI 0)) (rdE 1))) (retO (b2 ixD (rdE 0) (kI 1))) nxO)
  (retO (ap mkTup (cA (rdE 0) nA))))
def m_parts_of : List D → R D := runDef 0 g_parts_of
def g_all_of (w : World) : Ev → R Out :=
  (seqO (setO 1 (kDs w))
  (seqO (forNO 2 0 (seqO (ifO (tV (b2 eqD (rdE 2) gl_NO)) (retO gl_NO) nxO)
    (forTO 3 (ap m_parts_of (cA (rdE 2) (cA (kS "and") nA))) (sputO w 1 (rdE 3) (kB true)))))
  (seqO (ifO (tV (b2 eqD (ap lenSn (cA (rdE 1) nA)) (kI 1))) (retO (b2 ixD (ap listSn (cA (rdE 1) nA)) (kI 0))) nxO)
  (retO (ap mkTup (cA (kS "and") (cA (ap tupleSn (cA (rdE 1) nA)) nA)))))))
def m_all_of (w : World) : List D → R D := runDef 3 (g_all_of w)
def g_one_of (w : World) : Ev → R Out :=
  (seqO (setO 1 (kDs w))
  (seqO (forNO 2 0 (seqO (ifO (tV (b2 eqD (rdE 2) gl_YES)) (retO gl_YES) nxO)
    (forTO 3 (ap m_parts_of (cA (rdE 2) (cA (kS "or") nA))) (sputO w 1 (rdE 3) (kB true)))))
  (seqO (ifO (tV (b2 eqD (ap lenSn (cA (rdE 1) nA)) (kI 1))) (retO (b2 ixD (ap listSn (cA (rdE 1) nA)) (kI 0))) nxO)
  (retO (ap mkTup (cA (kS "or") (cA (ap tupleSn (cA (rdE 1) nA)) nA)))))))
def m_one_of (w : World) : List D → R D := runDef 3 (g_one_of w)
def g_decided : Ev → R Out :=
  (seqO (ifO (tV (b2 neD (b2 ixD (b2 ixD (rdE 0) (u1 negD (kI 1))) (kI 1)) (ap mkTup nA))) (retN 0) nxO)
  (seqO (ifO (tV (ap (m_truth 60) (cA (rdE 0) (cA kD nA)))) (retO gl_YES) nxO)
  (retO gl_NO)))
def m_decided : List D → R D := runDef 0 g_decided
def g_filled (w : World) (rec : List D → R D) : Ev → R Out :=
  (seqO (setO 3 (b2 ixD (rdE 0) (kI 0)))
  (seqO (ifO (tV (b2 eqD (rdE 3) (kS "and"))) (retO (ap (m_all_of w) (cA (lcN 5 (b2 ixD (rdE 0) (kI 1)) selT yes (ap rec (cA (rdE 5) (cA (rdE 1) (cA (rdE 2) nA))))) nA))) nxO)
  (seqO (ifO (tV (b2 eqD (rdE 3) (kS "or"))) (retO (ap (m_one_of w) (cA (lcN 5 (b2 ixD (rdE 0) (kI 1)) selT yes (ap rec (cA (rdE 5) (cA (rdE 1) (cA (rdE 2) nA))))) nA))) nxO)
  (seqO (ifO (tV (b2 eqD (rdE 3) (kS "not"))) (seqO (setO 4 (ap rec (cA (b2 ixD (rdE 0) (kI 1)) (cA (rdE 1) (cA (rdE 2) nA)))))
    (seqO (ifO (tV (b2 eqD (rdE 4) gl_YES)) (retO gl_NO) nxO)
    (seqO (ifO (tV (b2 eqD (rdE 4) gl_NO)) (retO gl_YES) nxO)
    (retO (ap mkTup (cA (kS "not") (cA (rdE 4) nA))))))) nxO)
  (seqO (ifO (tV (b2 eqD (rdE 3) (kS "goes"))) (retO (ap m_decided (cA (ap mkTup (cA (kS "goes") (cA (b2 ixD (rdE 0) (kI 1)) (cA (ap m_put_in (cA (b2 ixD (rdE 0) (kI 2)) (cA (rdE 1) (cA (rdE 2) nA)))) nA)))) nA))) nxO)
  (retO (ap m_decided (cA (ap mkTup (cA (kS "above") (cA (ap m_put_in (cA (b2 ixD (rdE 0) (kI 1)) (cA (rdE 1) (cA (rdE 2) nA)))) nA))) nA))))))))
def m_filled (w : World) : Nat → List D → R D
  | 0 => fun _ => .stuck
  | n + 1 => runDef 3 (g_filled w (m_filled w n))
def g_ends_of (rec : List D → R D) : Ev → R Out :=
  (seqO (setO 1 (b2 ixD (rdE 0) (kI 0)))
  (seqO (ifO (tOr2 (tV (b2 eqD (rdE 1) (kS "and"))) (tV (b2 eqD (rdE 1) (kS "or")))) (seqO (setO 2 (ap mkLst nA))
    (seqO (forTO 3 (b2 ixD (rdE 0) (kI 1)) (extO 2 (ap rec (cA (rdE 3) nA))))
    (retN 2))) nxO)
  (seqO (ifO (tV (b2 eqD (rdE 1) (kS "not"))) (retO (ap mkLst (cA (b2 ixD (rdE 0) (kI 1)) nA))) nxO)
  (retO (ap mkLst (cA (rdE 0) nA))))))
def m_ends_of : Nat → List D → R D
  | 0 => fun _ => .stuck
  | n + 1 => runDef 3 (g_ends_of (m_ends_of n))
def g_least_times : Ev → R Out :=
  (seqO (parO2 2 3 (cA (rdE 0) (cA (rdE 1) nA)))
  (seqO (whR (tV (b2 gtD (rdE 3) (kI 0))) (parO2 2 3 (cA (rdE 3) (cA (b2 modD (rdE 2) (rdE 3)) nA))) 1000)
  (retO (b2 mulD (b2 divD (rdE 0) (rdE 2)) (rdE 1)))))
def m_least_times : List D → R D := runDef 2 g_least_times
def g_end_stretched : Ev → R Out :=
  (seqO (setO 3 (ap m_share (cA (b2 ixD (rdE 0) (u1 negD (kI 1))) (cA (rdE 1) nA))))
  (seqO (ifO (tV (b2 eqD (rdE 3) (kI 0))) (retN 0) nxO)
  (seqO (setO 4 (b2 divD (rdE 2) (ap absD (cA (rdE 3) nA))))
  (seqO (setO 5 (ap m_added (cA (ap m_times (cA (rdE 4) (cA (ap m_without (cA (b2 ixD (rdE 0) (u1 negD (kI 1))) (cA (rdE 1) nA))) nA))) (cA (ap mkTup (cA (kI 0) (cA (ap mkTup (cA (ap mkTup (cA (rdE 1) (cA (b2 divD (rdE 3) (ap absD (cA (rdE 3) nA))) nA))) nA)) nA))) nA))))
  (seqO (ifO (tV (b2 eqD (b2 ixD (rdE 0) (kI 0)) (kS "goes"))) (retO (ap mkTup (cA (kS "goes") (cA (b2 mulD (rdE 4) (b2 ixD (rdE 0) (kI 1))) (cA (rdE 5) nA))))) nxO)
  (retO (ap mkTup (cA (kS "above") (cA (rdE 5) nA)))))))))
def m_end_stretched : List D → R D := runDef 3 g_end_stretched
def g_stretched (rec : List D → R D) : Ev → R Out :=
  (seqO (setO 3 (b2 ixD (rdE 0) (kI 0)))
  (seqO (ifO (tOr2 (tV (b2 eqD (rdE 3) (kS "and"))) (tV (b2 eqD (rdE 3) (kS "or")))) (retO (ap mkTup (cA (rdE 3) (cA (ap tupleD (cA (lcN 4 (b2 ixD (rdE 0) (kI 1)) selT yes (ap rec (cA (rdE 4) (cA (rdE 1) (cA (rdE 2) nA))))) nA)) nA)))) nxO)
  (seqO (ifO (tV (b2 eqD (rdE 3) (kS "not"))) (retO (ap mkTup (cA (kS "not") (cA (ap m_end_stretched (cA (b2 ixD (rdE 0) (kI 1)) (cA (rdE 1) (cA (rdE 2) nA)))) nA)))) nxO)
  (retO (ap m_end_stretched (cA (rdE 0) (cA (rdE 1) (cA (rdE 2) nA))))))))
def m_stretched : Nat → List D → R D
  | 0 => fun _ => .stuck
  | n + 1 => runDef 2 (g_stretched (m_stretched n))
def g_prepared : Ev → R Out :=
  (seqO (setO 2 (ap (m_turned 60) (cA (rdE 0) (cA (kB true) nA))))
  (seqO (setO 3 (kI 1))
  (seqO (forLO 4 (ap (m_ends_of 60) (cA (rdE 2) nA)) (seqO (setO 6 (ap m_share (cA (b2 ixD (rdE 4) (u1 negD (kI 1))) (cA (rdE 1) nA))))
    (ifO (tV (b2 neD (rdE 6) (kI 0))) (setO 3 (ap m_least_times (cA (rdE 3) (cA (ap absD (cA (rdE 6) nA)) nA)))) nxO)))
  (seqO (setO 2 (ap (m_stretched 60) (cA (rdE 2) (cA (rdE 1) (cA (rdE 3) nA)))))
  (seqO (ifO (tV (b2 gtD (rdE 3) (kI 1))) (setO 2 (ap mkTup (cA (kS "and") (cA (ap mkTup (cA (rdE 2) (cA (ap mkTup (cA (kS "goes") (cA (rdE 3) (cA (ap mkTup (cA (kI 0) (cA (ap mkTup (cA (ap mkTup (cA (rdE 1) (cA (kI 1) nA))) nA)) nA))) nA)))) nA))) nA)))) nxO)
  (seqO (setO 5 (kI 1))
  (seqO (forLO 4 (ap (m_ends_of 60) (cA (rdE 2) nA)) (ifO (tAnd2 (tV (b2 eqD (b2 ixD (rdE 4) (kI 0)) (kS "goes"))) (tV (b2 neD (ap m_share (cA (b2 ixD (rdE 4) (kI 2)) (cA (rdE 1) nA))) (kI 0)))) (setO 5 (ap m_least_times (cA (rdE 5) (cA (b2 ixD (rdE 4) (kI 1)) nA)))) nxO))
  (retO (ap mkTup (cA (rdE 2) (cA (rdE 3) (cA (rdE 5) nA))))))))))))
def m_prepared : List D → R D := runDef 5 g_prepared
def g_bounds_of (w : World) : Ev → R Out :=
  (seqO (setO 3 (kDs w))
  (seqO (forLO 4 (ap (m_ends_of 60) (cA (rdE 0) nA)) (ifO (tAnd2 (tV (b2 eqD (b2 ixD (rdE 4) (kI 0)) (kS "above"))) (tV (b2 eqD (ap m_share (cA (b2 ixD (rdE 4) (kI 1)) (cA (rdE 1) nA))) (rdE 2)))) (sputO w 3 (ap m_times (cA (u1 negD (rdE 2)) (cA (ap m_without (cA (b2 ixD (rdE 4) (kI 1)) (cA (rdE 1) nA))) nA))) (kB true)) nxO))
  (retO (ap listSn (cA (rdE 3) nA)))))
def m_bounds_of (w : World) : List D → R D := runDef 2 (g_bounds_of w)
def g_far_below (w : World) (rec : List D → R D) : Ev → R Out :=
  (seqO (setO 2 (b2 ixD (rdE 0) (kI 0)))
  (seqO (ifO (tV (b2 eqD (rdE 2) (kS "and"))) (retO (ap (m_all_of w) (cA (lcN 3 (b2 ixD (rdE 0) (kI 1)) selT yes (ap rec (cA (rdE 3) (cA (rdE 1) nA)))) nA))) nxO)
  (seqO (ifO (tV (b2 eqD (rdE 2) (kS "or"))) (retO (ap (m_one_of w) (cA (lcN 3 (b2 ixD (rdE 0) (kI 1)) selT yes (ap rec (cA (rdE 3) (cA (rdE 1) nA)))) nA))) nxO)
  (seqO (ifO (tV (b2 neD (rdE 2) (kS "above"))) (retN 0) nxO)
  (retO (b2 ixD (ap mkLst (cA gl_NO (cA (rdE 0) (cA gl_YES nA)))) (b2 subD (kI 1) (ap m_share (cA (b2 ixD (rdE 0) (kI 1)) (cA (rdE 1) nA))))))))))
def m_far_below (w : World) : Nat → List D → R D
  | 0 => fun _ => .stuck
  | n + 1 => runDef 2 (g_far_below w (m_far_below w n))
def g_taken (w : World) : Ev → R Out :=
  (seqO (exprO (ap m_need_plain (cA (rdE 1) nA)))
  (seqO (ifO (tV (b2 ninD (rdE 0) (ap m_unknowns (cA (rdE 1) nA)))) (retN 1) nxO)
  (seqO (unpO [5, 6, 7] (ap m_prepared (cA (rdE 1) (cA (rdE 0) nA))))
  (seqO (setO 2 (ap (m_far_below w 60) (cA (rdE 5) (cA (rdE 0) nA))))
  (seqO (setO 3 (lcRg 8 (cA (kI 1) (cA (b2 addD (rdE 7) (kI 1)) nA)) rng2 yes (ap (m_filled w 60) (cA (rdE 2) (cA (rdE 0) (cA (ap mkTup (cA (rdE 8) (cA (ap mkTup nA) nA))) nA))))))
  (seqO (forLO 4 (ap (m_bounds_of w) (cA (rdE 5) (cA (rdE 0) (cA (kI 1) nA)))) (forRO 8 (cA (kI 1) (cA (b2 addD (rdE 7) (kI 1)) nA)) rng2 (appO 3 (ap (m_filled w 60) (cA (rdE 5) (cA (rdE 0) (cA (ap m_added (cA (rdE 4) (cA (ap mkTup (cA (rdE 8) (cA (ap mkTup nA) nA))) nA))) nA)))))))
  (retO (ap (m_one_of w) (cA (rdE 3) nA)))))))))
def m_taken (w : World) : List D → R D := runDef 7 (g_taken w)
def g_law_ends (rec : List D → R D) : Ev → R Out :=
  (seqO (setO 1 (b2 ixD (rdE 0) (kI 0)))
  (seqO (ifO (tV (b2 eqD (rdE 1) (kS "not"))) (retO (ap rec (cA (b2 ixD (rdE 0) (kI 1)) nA))) nxO)
  (seqO (ifO (tOr2 (tV (b2 eqD (rdE 1) (kS "and"))) (tV (b2 eqD (rdE 1) (kS "or")))) (seqO (setO 2 (ap mkLst nA))
    (seqO (forTO 3 (b2 ixD (rdE 0) (kI 1)) (extO 2 (ap rec (cA (rdE 3) nA))))
    (retN 2))) nxO)
  (retO (ap mkLst (cA (rdE 0) nA))))))
def m_law_ends : Nat → List D → R D
  | 0 => fun _ => .stuck
  | n + 1 => runDef 3 (g_law_ends (m_law_ends n))
def g_law_tries : Ev → R Out :=
  (seqO (setO 3 (kI 1))
  (seqO (setO 4 (ap mkLst nA))
  (seqO (forLO 5 (ap (m_law_ends 60) (cA (rdE 0) nA)) (ifO (tV (b2 eqD (b2 ixD (rdE 5) (kI 0)) (kS "goes"))) (seqO (setO 8 (rdT 3))
      (seqO (whR (tV (b2 neD (b2 modD (rdE 8) (b2 ixD (rdE 5) (kI 1))) (kI 0))) (setO 8 (b2 addD (rdE 8) (rdE 3))) 1000)
      (setO 3 (rdT 8)))) (seqO (setO 9 (ap sumD (cA (lcN 12 (b2 ixD (b2 ixD (rdE 5) (u1 negD (kI 1))) (kI 1)) selT (tV (b2 eqD (b2 ixD (rdE 12) (kI 0)) (rdE 1))) (b2 ixD (rdE 12) (kI 1))) nA)))
      (seqO (setO 10 (b2 addD (b2 ixD (b2 ixD (rdE 5) (u1 negD (kI 1))) (kI 0)) (ap sumD (cA (lcN 12 (b2 ixD (b2 ixD (rdE 5) (u1 negD (kI 1))) (kI 1)) selT (tV (b2 neD (b2 ixD (rdE 12) (kI 0)) (rdE 1))) (b2 mulD (b2 ixD (rdE 12) (kI 1)) (b2 dgetD (rdE 2) (b2 ixD (rdE 12) (kI 0))))) nA))))
      (ifO (tV (b2 neD (rdE 9) (kI 0))) (appO 4 (b2 divD (b2 subD (kI 0) (rdE 10)) (rdE 9))) nxO)))))
  (seqO (setO 6 (ap mkLst nA))
  (seqO (forOO 7 4 (ap mkLst (cA (kI 0) nA)) (extO 6 (lcRg 11 (cA (b2 addD (b2 mulD (kI 2) (rdE 3)) (kI 1)) nA) rng1 yes (b2 subD (b2 addD (rdE 7) (rdE 11)) (rdE 3)))))
  (retO (u1 issetD (rdE 6))))))))
def m_law_tries : List D → R D := runDef 10 g_law_tries
def g_law_some : Ev → R Out :=
  (seqO (setO 3 (ap dictD (cA (rdE 2) nA)))
  (seqO (forLO 4 (ap m_law_tries (cA (rdE 0) (cA (rdE 1) (cA (rdE 2) nA)))) (seqO (dputO 3 (rdE 1) (rdE 4))
    (ifO (tV (ap (m_law_true 60) (cA (rdE 0) (cA (rdE 3) nA)))) (retO (kB true)) nxO)))
  (retO (kB false))))
def m_law_some : List D → R D := runDef 2 g_law_some
def g_law_shape : Ev → R Out :=
  (seqO (ifO (tV (b2 eqD (b2 modD (rdE 0) (kI 6)) (kI 5))) (retO (ap mkTup (cA (b2 addD (kI 1) (b2 modD (b2 divD (rdE 0) (kI 6)) (kI 2))) (cA (kI 3) (cA (kI 4) nA))))) nxO)
  (seqO (ifO (tV (b2 eqD (b2 modD (b2 divD (rdE 0) (kI 6)) (kI 9)) (kI 8))) (retO (ap mkTup (cA (kI 1) (cA (kI 1) (cA (kI 40) nA))))) nxO)
  (retO (ap mkTup (cA (b2 addD (kI 1) (b2 modD (b2 divD (rdE 0) (kI 6)) (kI 4))) (cA (b2 ixD (ap mkLst (cA (kI 1) (cA (kI 1) (cA (kI 2) (cA (kI 2) (cA (kI 2) nA)))))) (b2 modD (rdE 0) (kI 6))) (cA (b2 ixD (ap mkLst (cA (kI 3) (cA (kI 3) (cA (kI 2) (cA (kI 4) (cA (kI 4) nA)))))) (b2 modD (rdE 0) (kI 6))) nA)))))))
def m_law_shape : List D → R D := runDef 0 g_law_shape
def g_law_box_by : Ev → R Out :=
  (seqO (setO 6 (ap mkLst nA))
  (seqO (forRO 7 (cA (b2 addD (rdE 2) (kI 1)) nA) rng1 (seqO (setO 8 (b2 addD (ap m_law_cell_at (cA (rdE 0) (cA (b2 addD (rdE 1) (rdE 7)) nA))) (b2 mulD (kI 104729) (rdE 7))))
    (seqO (setO 9 (ap m_law_sum_by (cA (b2 divD (rdE 8) (kI 12)) (cA (sl3 (rdE 3) (sS (kI 1)) sN) (cA (rdE 4) nA)))))
    (seqO (setO 10 (b2 mulD (b2 ixD (ap mkLst (cA (kI 1) (cA (u1 negD (kI 1)) nA))) (b2 modD (rdE 7) (kI 2))) (b2 addD (kI 1) (b2 modD (b2 divD (rdE 8) (kI 3)) (rdE 4)))))
    (seqO (setO 9 (ap mkTup (cA (b2 ixD (rdE 9) (kI 0)) (cA (ap tupleD (cA (ap sortPD (cA (b2 addD (ap listD (cA (b2 ixD (rdE 9) (kI 1)) nA)) (ap mkLst (cA (ap mkTup (cA (b2 ixD (rdE 3) (kI 0)) (cA (rdE 10) nA))) nA))) nA)) nA)) nA))))
    (ifO (tOr2 (tAnd2 (tV (b2 eqD (rdE 7) (kI 2))) (tV (b2 eqD (b2 modD (rdE 8) (kI 2)) (kI 0)))) (tAnd2 (tV (b2 eqD (b2 modD (rdE 8) (kI 3)) (kI 2))) (tV (b2 gtD (rdE 7) (kI 0))))) (appO 6 (ap mkTup (cA (kS "goes") (cA (b2 addD (kI 1) (b2 modD (b2 divD (rdE 8) (kI 4)) (rdE 5))) (cA (rdE 9) nA))))) (ifO (tAnd2 (tV (b2 eqD (b2 modD (rdE 8) (kI 3)) (kI 1))) (tV (b2 gtD (rdE 7) (kI 2)))) (appO 6 (ap mkTup (cA (kS "not") (cA (ap mkTup (cA (kS "nought") (cA (rdE 9) nA))) nA)))) (appO 6 (ap mkTup (cA (kS "above") (cA (rdE 9) nA)))))))))))
  (retO (ap mkTup (cA (kS "and") (cA (ap tupleD (cA (rdE 6) nA)) nA))))))
def m_law_box_by : List D → R D := runDef 5 g_law_box_by
def g_law_any_by : Ev → R Out :=
  (seqO (setO 6 (b2 modD (b2 divD (ap m_law_cell_at (cA (rdE 0) (cA (rdE 1) nA))) (kI 5)) (kI 4)))
  (seqO (ifO (tV (b2 ltD (rdE 6) (kI 2))) (retO (ap m_law_plain_by (cA (rdE 0) (cA (rdE 1) (cA (rdE 2) (cA (rdE 3) (cA (rdE 4) (cA (rdE 5) nA)))))))) nxO)
  (seqO (ifO (tV (b2 eqD (rdE 6) (kI 2))) (retO (ap m_law_box_by (cA (rdE 0) (cA (rdE 1) (cA (rdE 2) (cA (rdE 3) (cA (rdE 4) (cA (rdE 5) nA)))))))) nxO)
  (retO (ap mkTup (cA (kS "not") (cA (ap m_law_box_by (cA (rdE 0) (cA (rdE 1) (cA (rdE 2) (cA (rdE 3) (cA (rdE 4) (cA (rdE 5) nA))))))) nA)))))))
def m_law_any_by : List D → R D := runDef 1 g_law_any_by
def g_left (w : World) (rec : List D → R D) : Ev → R Out :=
  (seqO (setO 1 (b2 ixD (rdE 0) (kI 0)))
  (seqO (ifO (tV (b2 eqD (rdE 1) (kS "not"))) (retO (ap mkTup (cA (kS "not") (cA (ap rec (cA (b2 ixD (rdE 0) (kI 1)) nA)) nA)))) nxO)
  (seqO (ifO (tOr2 (tV (b2 eqD (rdE 1) (kS "and"))) (tV (b2 eqD (rdE 1) (kS "or")))) (retO (ap mkTup (cA (rdE 1) (cA (ap tupleD (cA (lcN 2 (b2 ixD (rdE 0) (kI 1)) selT yes (ap rec (cA (rdE 2) nA))) nA)) nA)))) nxO)
  (seqO (ifO (tV (b2 eqD (rdE 1) (kS "some"))) (retO (ap (m_taken w) (cA (b2 ixD (rdE 0) (kI 1)) (cA (ap rec (cA (b2 ixD (rdE 0) (kI 2)) nA)) nA)))) nxO)
  (seqO (ifO (tV (b2 eqD (rdE 1) (kS "all"))) (retO (ap mkTup (cA (kS "not") (cA (ap (m_taken w) (cA (b2 ixD (rdE 0) (kI 1)) (cA (ap mkTup (cA (kS "not") (cA (ap rec (cA (b2 ixD (rdE 0) (kI 2)) nA)) nA))) nA))) nA)))) nxO)
  (retN 0))))))
def m_left (w : World) : Nat → List D → R D
  | 0 => fun _ => .stuck
  | n + 1 => runDef 2 (g_left w (m_left w n))
def g_holds (w : World) : Ev → R Out :=
  (seqO (exprO (ap m_need_values (cA (ap m_unknowns (cA (rdE 0) nA)) (cA (rdE 1) nA))))
  (retO (ap m_is_true (cA (ap (m_left w 60) (cA (rdE 0) nA)) (cA (rdE 1) nA)))))
def m_holds (w : World) : List D → R D := runDef 0 (g_holds w)
def g_tries_of (w : World) : Ev → R Out :=
  (seqO (setO 3 (lcN 9 (ap (m_bounds_of w) (cA (rdE 0) (cA (rdE 1) (cA (kI 1) nA)))) selL yes (b2 ixD (rdE 9) (kI 0))))
  (seqO (setO 4 (lcN 9 (ap (m_bounds_of w) (cA (rdE 0) (cA (rdE 1) (cA (u1 negD (kI 1)) nA)))) selL yes (b2 ixD (rdE 9) (kI 0))))
  (seqO (setO 5 (b2 subD (u1 (mDefD minI 0) (b2 addD (rdE 3) (rdE 4))) (kI 1)))
  (seqO (setO 6 (lcRg 8 (cA (rdE 2) nA) rng1 yes (b2 subD (rdE 5) (rdE 8))))
  (seqO (forNO 7 3 (forRO 8 (cA (kI 1) (cA (b2 addD (rdE 2) (kI 1)) nA)) rng2 (appO 6 (b2 addD (rdE 7) (rdE 8)))))
  (retN 6))))))
def m_tries_of (w : World) : List D → R D := runDef 7 (g_tries_of w)
def g_told (w : World) : Ev → R Out :=
  (seqO (exprO (ap m_need_values (cA (lcN 4 (ap m_unknowns (cA (rdE 1) nA)) selL (tV (b2 neD (rdE 4) (rdE 0))) (rdT 4)) (cA (rdE 2) nA))))
  (seqO (setO 3 (ap (m_left w 60) (cA (rdE 1) nA)))
  (seqO (forLO 4 (ap m_unknowns (cA (rdE 3) nA)) (ifO (tV (b2 neD (rdE 4) (rdE 0))) (setO 3 (ap m_put (cA (rdE 3) (cA (rdE 4) (cA (ap mkTup (cA (b2 dgetD (rdE 2) (rdE 4)) (cA (ap mkTup nA) nA))) nA))))) nxO))
  (seqO (unpO [6, 7, 8] (ap m_prepared (cA (rdE 3) (cA (rdE 0) nA))))
  (seqO (forLO 5 (ap (m_tries_of w) (cA (rdE 6) (cA (rdE 0) (cA (rdE 8) nA)))) (ifO (tV (ap (m_truth 60) (cA (rdE 6) (cA (kD1 (rdE 0) (rdE 5)) nA)))) (retO (b2 divD (rdE 5) (rdE 7))) nxO))
  (retO kN))))))
def m_told (w : World) : List D → R D := runDef 6 (g_told w)
def g_law_sum : Ev → R Out :=
  (retO (ap mkTup (cA (rdE 0) (cA (ap tupleD (cA (ap sortPD (cA (lcN 2 (rdE 1) selL (tV (b2 neD (b2 ixD (rdE 2) (kI 1)) (kI 0))) (rdT 2)) nA)) nA)) nA))))
def m_law_sum : List D → R D := runDef 1 g_law_sum
def g_law_kind : Ev → R Out :=
  (seqO (setO 3 (b2 addD (kI 1) (b2 modD (ap m_law_cell_at (cA (rdE 0) (cA (kI 3) nA))) (kI 40))))
  (seqO (unpLO [9, 10, 11] (sl3 (rdE 1) sN (sS (kI 3))))
  (seqO (setO 4 (b2 dgetD (rdE 2) (rdE 10)))
  (seqO (setO 5 (b2 dgetD (rdE 2) (rdE 11)))
  (seqO (setO 6 (ap mkLst (cA (ap mkTup (cA (kS "above") (cA (ap m_law_sum (cA (kI 0) (cA (ap mkLst (cA (ap mkTup (cA (rdE 9) (cA (rdE 3) nA))) (cA (ap mkTup (cA (rdE 10) (cA (u1 negD (kI 1)) nA))) nA))) nA))) nA))) (cA (ap mkTup (cA (kS "above") (cA (ap m_law_sum (cA (kI 0) (cA (ap mkLst (cA (ap mkTup (cA (rdE 9) (cA (b2 subD (kI 0) (rdE 3)) nA))) (cA (ap mkTup (cA (rdE 11) (cA (kI 1) nA))) nA))) nA))) nA))) nA))))
  (seqO (setO 7 (b2 modD (ap m_law_cell_at (cA (rdE 0) (cA (kI 4) nA))) (kI 4)))
  (seqO (ifO (tV (b2 eqD (rdE 7) (kI 0))) (retO (ap mkTup (cA (kS "some") (cA (ap mkTup (cA (kS "and") (cA (ap tupleD (cA (rdE 6) nA)) nA))) (cA (b2 ltD (b2 mulD (b2 addD (b2 divD (rdE 4) (rdE 3)) (kI 1)) (rdE 3)) (rdE 5)) nA))))) nxO)
  (seqO (ifO (tV (b2 eqD (rdE 7) (kI 1))) (retO (ap mkTup (cA (kS "some") (cA (ap mkTup (cA (kS "nought") (cA (ap m_law_sum (cA (kI 0) (cA (ap mkLst (cA (ap mkTup (cA (rdE 9) (cA (rdE 3) nA))) (cA (ap mkTup (cA (rdE 10) (cA (u1 negD (kI 1)) nA))) nA))) nA))) nA))) (cA (b2 eqD (b2 modD (rdE 4) (rdE 3)) (kI 0)) nA))))) nxO)
  (seqO (ifO (tV (b2 eqD (rdE 7) (kI 2))) (seqO (setO 12 (ap mkTup (cA (kS "goes") (cA (rdE 3) (cA (ap m_law_sum (cA (kI 0) (cA (ap mkLst (cA (ap mkTup (cA (rdE 9) (cA (kI 1) nA))) (cA (ap mkTup (cA (rdE 10) (cA (kI 1) nA))) nA))) nA))) nA)))))
    (retO (ap mkTup (cA (kS "some") (cA (ap mkTup (cA (kS "and") (cA (ap mkTup (cA (rdE 12) (cA (ap mkTup (cA (kS "above") (cA (ap m_law_sum (cA (kI 0) (cA (ap mkLst (cA (ap mkTup (cA (rdE 9) (cA (kI 1) nA))) (cA (ap mkTup (cA (rdE 11) (cA (u1 negD (kI 1)) nA))) nA))) nA))) nA))) nA))) nA))) (cA (kB true) nA)))))) nxO)
  (seqO (setO 8 (ap mkTup (cA (ap mkTup (cA (kS "above") (cA (ap m_law_sum (cA (kI 0) (cA (ap mkLst (cA (ap mkTup (cA (rdE 9) (cA (kI 1) nA))) (cA (ap mkTup (cA (rdE 10) (cA (u1 negD (kI 1)) nA))) nA))) nA))) nA))) (cA (ap mkTup (cA (kS "above") (cA (ap m_law_sum (cA (kI 0) (cA (ap mkLst (cA (ap mkTup (cA (rdE 9) (cA (u1 negD (kI 1)) nA))) (cA (ap mkTup (cA (rdE 11) (cA (kI 1) nA))) nA))) nA))) nA))) nA))))
  (retO (ap mkTup (cA (kS "all") (cA (ap mkTup (cA (kS "or") (cA (rdE 8) nA))) (cA (b2 ltD (rdE 4) (rdE 5)) nA)))))))))))))))
def m_law_kind : List D → R D := runDef 10 g_law_kind
def g_law_same : Ev → R Out :=
  (retO (vAnd (u1 (isiD "bool") (rdE 0)) (b2 eqD (rdE 0) (rdE 1))))
def m_law_same : List D → R D := runDef 0 g_law_same
def g_sum_words : Ev → R Out :=
  (seqO (setO 1 (ap mkLst (cA (ap strD (cA (b2 ixD (rdE 0) (kI 0)) nA)) nA)))
  (seqO (forTO 2 (b2 ixD (rdE 0) (kI 1)) (extO 1 (ap mkLst (cA (ap strD (cA (b2 ixD (rdE 2) (kI 1)) nA)) (cA (b2 ixD (rdE 2) (kI 0)) nA)))))
  (retO (b2 addD (rdE 1) (ap mkLst (cA (kS ";") nA))))))
def m_sum_words : List D → R D := runDef 2 g_sum_words
def g_words_of (rec : List D → R D) : Ev → R Out :=
  (seqO (setO 1 (b2 ixD (rdE 0) (kI 0)))
  (seqO (ifO (tV (b2 eqD (rdE 1) (kS "not"))) (retO (b2 addD (ap mkLst (cA (kS "not") nA)) (ap rec (cA (b2 ixD (rdE 0) (kI 1)) nA)))) nxO)
  (seqO (ifO (tOr2 (tV (b2 eqD (rdE 1) (kS "some"))) (tV (b2 eqD (rdE 1) (kS "all")))) (retO (b2 addD (ap mkLst (cA (rdE 1) (cA (b2 ixD (rdE 0) (kI 1)) nA))) (ap rec (cA (b2 ixD (rdE 0) (kI 2)) nA)))) nxO)
  (seqO (ifO (tOr2 (tV (b2 eqD (rdE 1) (kS "and"))) (tV (b2 eqD (rdE 1) (kS "or")))) (seqO (setO 2 (ap mkLst (cA (rdE 1) (cA (ap strD (cA (ap lenD (cA (b2 ixD (rdE 0) (kI 1)) nA)) nA)) nA))))
    (seqO (forTO 3 (b2 ixD (rdE 0) (kI 1)) (extO 2 (ap rec (cA (rdE 3) nA))))
    (retN 2))) nxO)
  (seqO (ifO (tV (b2 eqD (rdE 1) (kS "goes"))) (retO (b2 addD (ap mkLst (cA (kS "goes") (cA (ap strD (cA (b2 ixD (rdE 0) (kI 1)) nA)) nA))) (ap m_sum_words (cA (b2 ixD (rdE 0) (kI 2)) nA)))) nxO)
  (retO (b2 addD (ap mkLst (cA (rdE 1) nA)) (ap m_sum_words (cA (b2 ixD (rdE 0) (kI 1)) nA)))))))))
def m_words_of : Nat → List D → R D
  | 0 => fun _ => .stuck
  | n + 1 => runDef 3 (g_words_of (m_words_of n))
def g_written : Ev → R Out :=
  (retO (b2 joinD (kS " ") (ap (m_words_of 100) (cA (rdE 0) nA))))
def m_written : List D → R D := runDef 0 g_written
def g_word_at : Ev → R Out :=
  (seqO (ifO (tV (b2 geD (rdE 1) (ap lenD (cA (rdE 0) nA)))) (raiseO 2) nxO)
  (retO (b2 ixD (rdE 0) (rdE 1))))
def m_word_at : List D → R D := runDef 0 g_word_at
def g_number_at : Ev → R Out :=
  (seqO (setO 2 (ap m_word_at (cA (rdE 0) (cA (rdE 1) nA))))
  (seqO (setO 3 (rdT 2))
  (seqO (ifO (tV (b2 eqD (sl3 (rdE 2) sN (sS (kI 1))) (kS "-"))) (setO 3 (sl3 (rdE 2) (sS (kI 1)) sN)) nxO)
  (seqO (ifO (tOr2 (tV (b2 eqD (rdE 3) (kS ""))) (tOr2 (tV (b2 gtD (ap lenD (cA (rdE 3) nA)) gl_MOST_FIGURES)) (tV (b2 eqD (rdE 2) (kS "-0"))))) (raiseO 2) nxO)
  (seqO (ifO (tAnd2 (tV (b2 eqD (b2 ixD (rdE 3) (kI 0)) (kS "0"))) (tV (b2 gtD (ap lenD (cA (rdE 3) nA)) (kI 1)))) (raiseO 2) nxO)
  (seqO (forSO 4 (rdE 3) (ifO (tV (b2 ninD (rdE 4) (kS "0123456789"))) (raiseO 2) nxO))
  (retO (ap intSD (cA (rdE 2) nA)))))))))
def m_number_at : List D → R D := runDef 3 g_number_at
def g_name_at : Ev → R Out :=
  (seqO (setO 2 (ap m_word_at (cA (rdE 0) (cA (rdE 1) nA))))
  (seqO (ifO (tOr2 (tV (b2 eqD (rdE 2) (kS ""))) (tV (b2 gtD (ap lenD (cA (rdE 2) nA)) (kI 8)))) (raiseO 2) nxO)
  (seqO (forSO 3 (rdE 2) (ifO (tV (b2 ninD (rdE 3) gl_LETTERS)) (raiseO 2) nxO))
  (retN 2))))
def m_name_at : List D → R D := runDef 2 g_name_at
def g_sum_at : Ev → R Out :=
  (seqO (setO 2 (ap m_number_at (cA (rdE 0) (cA (rdE 1) nA))))
  (seqO (setO 1 (b2 addD (rdE 1) (kI 1)))
  (seqO (setO 3 (ap mkLst nA))
  (seqO (whR (tV (b2 neD (ap m_word_at (cA (rdE 0) (cA (rdE 1) nA))) (kS ";"))) (seqO (setO 4 (ap m_number_at (cA (rdE 0) (cA (rdE 1) nA))))
    (seqO (setO 5 (ap m_name_at (cA (rdE 0) (cA (b2 addD (rdE 1) (kI 1)) nA))))
    (seqO (ifO (tOr2 (tV (b2 eqD (rdE 4) (kI 0))) (tAnd2 (tV (b2 neD (rdE 3) (ap mkLst nA))) (tV (b2 leD (rdE 5) (b2 ixD (b2 ixD (rdE 3) (u1 negD (kI 1))) (kI 0)))))) (raiseO 2) nxO)
    (seqO (appO 3 (ap mkTup (cA (rdE 5) (cA (rdE 4) nA))))
    (setO 1 (b2 addD (rdE 1) (kI 2))))))) 100000)
  (retO (ap mkTup (cA (ap mkTup (cA (rdE 2) (cA (ap tupleD (cA (rdE 3) nA)) nA))) (cA (b2 addD (rdE 1) (kI 1)) nA))))))))
def m_sum_at : List D → R D := runDef 4 g_sum_at
def g_parts_at (rec_parts_at rec_statement_at : List D → R D) : Ev → R Out :=
  (seqO (setO 3 (ap m_number_at (cA (rdE 0) (cA (rdE 1) nA))))
  (seqO (ifO (tV (b2 ltD (rdE 3) (kI 0))) (raiseO 2) nxO)
  (seqO (setO 1 (b2 addD (rdE 1) (kI 1)))
  (seqO (setO 4 (ap mkLst nA))
  (seqO (whR (tV (b2 ltD (ap lenD (cA (rdE 4) nA)) (rdE 3))) (seqO (unpO [5, 1] (ap rec_statement_at (cA (rdE 0) (cA (rdE 1) (cA (rdE 2) nA)))))
    (appO 4 (rdE 5))) 100000)
  (retO (ap mkTup (cA (ap tupleD (cA (rdE 4) nA)) (cA (rdE 1) nA)))))))))
def g_statement_at (rec_parts_at rec_statement_at : List D → R D) : Ev → R Out :=
  (seqO (setO 3 (ap m_word_at (cA (rdE 0) (cA (rdE 1) nA))))
  (seqO (ifO (tV (b2 geD (rdE 2) gl_MOST_WITHIN)) (raiseO 2) nxO)
  (seqO (ifO (tOr2 (tV (b2 eqD (rdE 3) (kS "above"))) (tV (b2 eqD (rdE 3) (kS "nought")))) (seqO (unpO [6, 1] (ap m_sum_at (cA (rdE 0) (cA (b2 addD (rdE 1) (kI 1)) nA))))
    (retO (ap mkTup (cA (ap mkTup (cA (rdE 3) (cA (rdE 6) nA))) (cA (rdE 1) nA))))) nxO)
  (seqO (ifO (tV (b2 eqD (rdE 3) (kS "goes"))) (seqO (setO 4 (ap m_number_at (cA (rdE 0) (cA (b2 addD (rdE 1) (kI 1)) nA))))
    (seqO (ifO (tV (b2 ltD (rdE 4) (kI 1))) (raiseO 2) nxO)
    (seqO (unpO [6, 1] (ap m_sum_at (cA (rdE 0) (cA (b2 addD (rdE 1) (kI 2)) nA))))
    (retO (ap mkTup (cA (ap mkTup (cA (kS "goes") (cA (rdE 4) (cA (rdE 6) nA)))) (cA (rdE 1) nA))))))) nxO)
  (seqO (ifO (tV (b2 eqD (rdE 3) (kS "not"))) (seqO (unpO [7, 1] (ap rec_statement_at (cA (rdE 0) (cA (b2 addD (rdE 1) (kI 1)) (cA (b2 addD (rdE 2) (kI 1)) nA)))))
    (retO (ap mkTup (cA (ap mkTup (cA (kS "not") (cA (rdE 7) nA))) (cA (rdE 1) nA))))) nxO)
  (seqO (ifO (tOr2 (tV (b2 eqD (rdE 3) (kS "and"))) (tV (b2 eqD (rdE 3) (kS "or")))) (seqO (unpO [8, 1] (ap rec_parts_at (cA (rdE 0) (cA (b2 addD (rdE 1) (kI 1)) (cA (b2 addD (rdE 2) (kI 1)) nA)))))
    (retO (ap mkTup (cA (ap mkTup (cA (rdE 3) (cA (rdE 8) nA))) (cA (rdE 1) nA))))) nxO)
  (seqO (ifO (tOr2 (tV (b2 eqD (rdE 3) (kS "some"))) (tV (b2 eqD (rdE 3) (kS "all")))) (seqO (setO 5 (ap m_name_at (cA (rdE 0) (cA (b2 addD (rdE 1) (kI 1)) nA))))
    (seqO (unpO [7, 1] (ap rec_statement_at (cA (rdE 0) (cA (b2 addD (rdE 1) (kI 2)) (cA (b2 addD (rdE 2) (kI 1)) nA)))))
    (retO (ap mkTup (cA (ap mkTup (cA (rdE 3) (cA (rdE 5) (cA (rdE 7) nA)))) (cA (rdE 1) nA)))))) nxO)
  (raiseO 2))))))))
mutual
def m_parts_at : Nat → List D → R D
  | 0 => fun _ => .stuck
  | n + 1 => runDef 3 (g_parts_at (m_parts_at n) (m_statement_at n))
def m_statement_at : Nat → List D → R D
  | 0 => fun _ => .stuck
  | n + 1 => runDef 6 (g_statement_at (m_parts_at n) (m_statement_at n))
end
def g_read : Ev → R Out :=
  (seqO (setO 1 (spl (rdE 0) (kS " ")))
  (seqO (unpO [2, 3] (ap (m_statement_at 100) (cA (rdE 1) (cA (kI 0) (cA (kI 0) nA)))))
  (seqO (ifO (tV (b2 neD (rdE 3) (ap lenD (cA (rdE 1) nA)))) (raiseO 2) nxO)
  (retN 2))))
def m_read : List D → R D := runDef 3 g_read
def g_law_sum_words : Ev → R Out :=
  (seqO (setO 1 (ap mkLst (cA (ap strD (cA (b2 ixD (rdE 0) (kI 0)) nA)) nA)))
  (seqO (forTO 2 (b2 ixD (rdE 0) (kI 1)) (setO 1 (b2 addD (rdE 1) (ap mkLst (cA (ap strD (cA (b2 ixD (rdE 2) (kI 1)) nA)) (cA (b2 ixD (rdE 2) (kI 0)) nA))))))
  (retO (b2 addD (rdE 1) (ap mkLst (cA (kS ";") nA))))))
def m_law_sum_words : List D → R D := runDef 2 g_law_sum_words
def g_law_words (rec : List D → R D) : Ev → R Out :=
  (seqO (setO 1 (b2 ixD (rdE 0) (kI 0)))
  (seqO (ifO (tV (b2 eqD (rdE 1) (kS "not"))) (retO (b2 addD (ap mkLst (cA (kS "not") nA)) (ap rec (cA (b2 ixD (rdE 0) (kI 1)) nA)))) nxO)
  (seqO (ifO (tOr2 (tV (b2 eqD (rdE 1) (kS "some"))) (tV (b2 eqD (rdE 1) (kS "all")))) (retO (b2 addD (ap mkLst (cA (rdE 1) (cA (b2 ixD (rdE 0) (kI 1)) nA))) (ap rec (cA (b2 ixD (rdE 0) (kI 2)) nA)))) nxO)
  (seqO (ifO (tOr2 (tV (b2 eqD (rdE 1) (kS "and"))) (tV (b2 eqD (rdE 1) (kS "or")))) (seqO (setO 2 (ap mkLst (cA (rdE 1) (cA (ap strD (cA (ap lenD (cA (b2 ixD (rdE 0) (kI 1)) nA)) nA)) nA))))
    (seqO (forTO 3 (b2 ixD (rdE 0) (kI 1)) (setO 2 (b2 addD (rdE 2) (ap rec (cA (rdE 3) nA)))))
    (retN 2))) nxO)
  (seqO (ifO (tV (b2 eqD (rdE 1) (kS "goes"))) (retO (b2 addD (ap mkLst (cA (kS "goes") (cA (ap strD (cA (b2 ixD (rdE 0) (kI 1)) nA)) nA))) (ap m_law_sum_words (cA (b2 ixD (rdE 0) (kI 2)) nA)))) nxO)
  (retO (b2 addD (ap mkLst (cA (rdE 1) nA)) (ap m_law_sum_words (cA (b2 ixD (rdE 0) (kI 1)) nA)))))))))
def m_law_words : Nat → List D → R D
  | 0 => fun _ => .stuck
  | n + 1 => runDef 3 (g_law_words (m_law_words n))
def g_law_within (rec : List D → R D) : Ev → R Out :=
  (seqO (setO 1 (b2 ixD (rdE 0) (kI 0)))
  (seqO (ifO (tV (b2 eqD (rdE 1) (kS "not"))) (retO (b2 addD (kI 1) (ap rec (cA (b2 ixD (rdE 0) (kI 1)) nA)))) nxO)
  (seqO (ifO (tOr2 (tV (b2 eqD (rdE 1) (kS "some"))) (tV (b2 eqD (rdE 1) (kS "all")))) (retO (b2 addD (kI 1) (ap rec (cA (b2 ixD (rdE 0) (kI 2)) nA)))) nxO)
  (seqO (ifO (tOr2 (tV (b2 eqD (rdE 1) (kS "and"))) (tV (b2 eqD (rdE 1) (kS "or")))) (retO (b2 addD (kI 1) (u1 (mDefD maxI 0) (lcN 2 (b2 ixD (rdE 0) (kI 1)) selT yes (ap rec (cA (rdE 2) nA)))))) nxO)
  (retO (kI 1))))))
def m_law_within : Nat → List D → R D
  | 0 => fun _ => .stuck
  | n + 1 => runDef 2 (g_law_within (m_law_within n))
def g_law_number : Ev → R Out :=
  (seqO (setO 1 (sl3 (rdE 0) (sS (ap intD (cA (b2 eqD (sl3 (rdE 0) sN (sS (kI 1))) (kS "-")) nA))) sN))
  (seqO (ifO (tOr2 (tV (b2 eqD (rdE 1) (kS ""))) (tOr2 (tV (b2 gtD (ap lenD (cA (rdE 1) nA)) (kI 60))) (tOr2 (tV (b2 eqD (rdE 0) (kS "-0"))) (tAnd2 (tV (b2 eqD (b2 ixD (rdE 1) (kI 0)) (kS "0"))) (tV (b2 gtD (ap lenD (cA (rdE 1) nA)) (kI 1))))))) (retO kN) nxO)
  (seqO (forSO 2 (rdE 1) (ifO (tV (b2 ninD (rdE 2) (kS "0123456789"))) (retO kN) nxO))
  (retO (ap intSD (cA (rdE 0) nA))))))
def m_law_number : List D → R D := runDef 2 g_law_number
def g_law_is_name : Ev → R Out :=
  (seqO (forSO 1 (rdE 0) (ifO (tV (b2 ninD (rdE 1) (kS "abcdefghijklmnopqrstuvwxyz"))) (retO (kB false)) nxO))
  (retO (vAnd (b2 ltD (kI 0) (ap lenD (cA (rdE 0) nA))) (b2 ltD (ap lenD (cA (rdE 0) nA)) (kI 9)))))
def m_law_is_name : List D → R D := runDef 1 g_law_is_name
def g_law_sum_along : Ev → R Out :=
  (seqO (setO 1 (ap mkLst nA))
  (seqO (setO 2 (kI 1))
  (seqO (whR (tAnd2 (tV (b2 ltD (rdE 2) (ap lenD (cA (rdE 0) nA)))) (tV (b2 neD (b2 ixD (rdE 0) (rdE 2)) (kS ";")))) (seqO (setO 3 (ap m_law_number (cA (b2 ixD (rdE 0) (rdE 2)) nA)))
    (seqO (setO 4 (b2 ixD (b2 addD (rdE 0) (ap mkLst (cA (kS "") nA))) (b2 addD (rdE 2) (kI 1))))
    (seqO (ifO (tOr2 (tV (b2 isD (rdE 3) kN)) (tOr2 (tV (b2 eqD (rdE 3) (kI 0))) (tOr2 (tNot1 (tV (ap m_law_is_name (cA (rdE 4) nA)))) (tAnd2 (tV (b2 neD (rdE 1) (ap mkLst nA))) (tV (b2 leD (rdE 4) (b2 ixD (b2 ixD (rdE 1) (u1 negD (kI 1))) (kI 0)))))))) (retO kN) nxO)
    (seqO (appO 1 (ap mkTup (cA (rdE 4) (cA (rdE 3) nA))))
    (setO 2 (b2 addD (rdE 2) (kI 2))))))) 100000)
  (seqO (ifO (tOr2 (tV (b2 geD (rdE 2) (ap lenD (cA (rdE 0) nA)))) (tV (b2 isD (ap m_law_number (cA (b2 ixD (rdE 0) (kI 0)) nA)) kN))) (retO kN) nxO)
  (retO (prD (ap mkTup (cA (ap m_law_number (cA (b2 ixD (rdE 0) (kI 0)) nA)) (cA (ap tupleD (cA (rdE 1) nA)) nA))) (sl3 (rdE 0) (sS (b2 addD (rdE 2) (kI 1))) sN)))))))
def m_law_sum_along : List D → R D := runDef 4 g_law_sum_along
def g_law_parts_along (rec_law_parts_along rec_law_along : List D → R D) : Ev → R Out :=
  (seqO (setO 2 (ap m_law_number (cA (b2 ixD (b2 addD (rdE 0) (ap mkLst (cA (kS "") nA))) (kI 0)) nA)))
  (seqO (ifO (tOr2 (tV (b2 isD (rdE 2) kN)) (tV (b2 ltD (rdE 2) (kI 0)))) (retO kN) nxO)
  (seqO (setO 3 (sl3 (rdE 0) (sS (kI 1)) sN))
  (seqO (setO 4 (ap mkLst nA))
  (seqO (whR (tV (b2 ltD (ap lenD (cA (rdE 4) nA)) (rdE 2))) (seqO (setO 5 (ap rec_law_along (cA (rdE 3) (cA (rdE 1) nA))))
    (seqO (ifO (tV (b2 isD (rdE 5) kN)) (retO kN) nxO)
    (seqO (appO 4 (b2 ixD (rdE 5) (kI 0)))
    (movO 3 5)))) 100000)
  (retPr (ap tupleD (cA (rdE 4) nA)) 3))))))
def g_law_along (rec_law_parts_along rec_law_along : List D → R D) : Ev → R Out :=
  (seqO (ifO (tOr2 (tV (b2 eqD (rdE 0) (ap mkLst nA))) (tV (b2 eqD (rdE 1) (kI 40)))) (retO kN) nxO)
  (seqO (setO 2 (b2 ixD (rdE 0) (kI 0)))
  (seqO (setO 3 (ap mkTup (cA (rdE 2) nA)))
  (seqO (setO 4 kN)
  (seqO (ifO (tOr2 (tV (b2 eqD (rdE 2) (kS "above"))) (tV (b2 eqD (rdE 2) (kS "nought")))) (setO 4 (ap m_law_sum_along (cA (sl3 (rdE 0) (sS (kI 1)) sN) nA))) nxO)
  (seqO (ifO (tAnd2 (tV (b2 eqD (rdE 2) (kS "goes"))) (tAnd2 (tV (b2 gtD (ap lenD (cA (rdE 0) nA)) (kI 1))) (tV (b2 gtD (orT (ap m_law_number (cA (b2 ixD (rdE 0) (kI 1)) nA)) (kI 0)) (kI 0))))) (seqO (setO 3 (ap mkTup (cA (rdE 2) (cA (ap m_law_number (cA (b2 ixD (rdE 0) (kI 1)) nA)) nA))))
    (setO 4 (ap m_law_sum_along (cA (sl3 (rdE 0) (sS (kI 2)) sN) nA)))) nxO)
  (seqO (ifO (tV (b2 eqD (rdE 2) (kS "not"))) (setO 4 (ap rec_law_along (cA (sl3 (rdE 0) (sS (kI 1)) sN) (cA (b2 addD (rdE 1) (kI 1)) nA)))) nxO)
  (seqO (ifO (tOr2 (tV (b2 eqD (rdE 2) (kS "and"))) (tV (b2 eqD (rdE 2) (kS "or")))) (setO 4 (ap rec_law_parts_along (cA (sl3 (rdE 0) (sS (kI 1)) sN) (cA (b2 addD (rdE 1) (kI 1)) nA)))) nxO)
  (seqO (ifO (tAnd2 (tOr2 (tV (b2 eqD (rdE 2) (kS "some"))) (tV (b2 eqD (rdE 2) (kS "all")))) (tAnd2 (tV (b2 gtD (ap lenD (cA (rdE 0) nA)) (kI 1))) (tV (ap m_law_is_name (cA (b2 ixD (rdE 0) (kI 1)) nA))))) (seqO (setO 3 (ap mkTup (cA (rdE 2) (cA (b2 ixD (rdE 0) (kI 1)) nA))))
    (setO 4 (ap rec_law_along (cA (sl3 (rdE 0) (sS (kI 2)) sN) (cA (b2 addD (rdE 1) (kI 1)) nA))))) nxO)
  (seqO (ifO (tV (b2 isD (rdE 4) kN)) (retO kN) nxO)
  (retPr2 (b2 addD (rdE 3) (ap mkTup (cA (b2 ixD (rdE 4) (kI 0)) nA))) 4)))))))))))
mutual
def m_law_parts_along : Nat → List D → R D
  | 0 => fun _ => .stuck
  | n + 1 => runDef 4 (g_law_parts_along (m_law_parts_along n) (m_law_along n))
def m_law_along : Nat → List D → R D
  | 0 => fun _ => .stuck
  | n + 1 => runDef 3 (g_law_along (m_law_parts_along n) (m_law_along n))
end
def g_law_changed : Ev → R Out :=
  (seqO (setO 2 (ap mkLst (cA (kS "not") (cA (kS "and") (cA (kS "some") (cA (kS "x") (cA (kS "0") (cA (kS "1") (cA (kS "-1") (cA (kS "-0") (cA (kS "07") (cA (kS "+1") (cA (kS ";") (cA (kS "") (cA (kS "X") nA)))))))))))))))
  (seqO (setO 2 (b2 addD (rdE 2) (ap mkLst (cA (kS "abcdefghi") (cA (kS "2x") (cA (b2 mulD (kS "1") (kI 61)) (cA (kS "-2") (cA (kS "-") (cA (kS "--1") (cA (kS "abcdefgh") (cA (kS "1-") (cA (kS "al") (cA (kS "so") (cA (kS "n") (cA (kS "gone") nA)))))))))))))))
  (seqO (setO 3 (b2 modD (b2 divD (rdE 1) (kI 5)) (b2 addD (ap lenD (cA (rdE 0) nA)) (ap intD (cA (vAnd (b2 gtD (b2 modD (rdE 1) (kI 5)) (kI 1)) (b2 ltD (b2 modD (rdE 1) (kI 5)) (kI 4))) nA)))))
  (seqO (setO 4 (b2 ixD (rdE 2) (b2 modD (b2 divD (rdE 1) (kI 512)) (kI 25))))
  (seqO (ifO (tV (b2 eqD (b2 modD (rdE 1) (kI 5)) (kI 0))) (retO (b2 addD (sl3 (rdE 0) sN (sS (rdE 3))) (sl3 (rdE 0) (sS (b2 addD (rdE 3) (kI 1))) sN))) nxO)
  (seqO (ifO (tV (b2 eqD (b2 modD (rdE 1) (kI 5)) (kI 1))) (retO (b2 addD (b2 addD (sl3 (rdE 0) sN (sS (rdE 3))) (ap mkLst (cA (rdE 4) nA))) (sl3 (rdE 0) (sS (b2 addD (rdE 3) (kI 1))) sN))) nxO)
  (seqO (ifO (tV (b2 eqD (b2 modD (rdE 1) (kI 5)) (kI 2))) (retO (b2 addD (b2 addD (sl3 (rdE 0) sN (sS (rdE 3))) (ap mkLst (cA (rdE 4) nA))) (sl3 (rdE 0) (sS (rdE 3)) sN))) nxO)
  (seqO (ifO (tV (b2 eqD (b2 modD (rdE 1) (kI 5)) (kI 4))) (seqO (setO 5 (b2 ixD (rdE 0) (rdE 3)))
    (seqO (setO 6 (b2 modD (b2 divD (rdE 1) (kI 512)) (ap max2D (cA (kI 1) (cA (ap lenD (cA (rdE 5) nA)) nA)))))
    (retO (b2 addD (b2 addD (sl3 (rdE 0) sN (sS (rdE 3))) (ap mkLst (cA (b2 addD (b2 addD (sl3 (rdE 5) sN (sS (rdE 6))) (b2 ixD (ap mkLst (cA (kS "") (cA (kS "&") nA))) (b2 modD (b2 divD (rdE 1) (kI 7)) (kI 2)))) (sl3 (rdE 5) (sS (b2 addD (rdE 6) (kI 1))) sN)) nA))) (sl3 (rdE 0) (sS (b2 addD (rdE 3) (kI 1))) sN))))) nxO)
  (retO (b2 addD (b2 addD (sl3 (rdE 0) sN (sS (rdE 3))) (ap mkLst (cA (kS "") nA))) (sl3 (rdE 0) (sS (rdE 3)) sN)))))))))))
def m_law_changed : List D → R D := runDef 5 g_law_changed
def g_law_read : Ev → R Out :=
  (tryTO 1 "statement" m_read (cA (rdE 0) nA))
def m_law_read : List D → R D := runDef 1 g_law_read
def g_law_is_due : Ev → R Out :=
  (seqO (setO 1 (ap (m_law_along 100) (cA (spl (rdE 0) (kS " ")) (cA (kI 0) nA))))
  (seqO (ifO (tOr2 (tV (b2 isD (rdE 1) kN)) (tV (b2 neD (pr1 (rdE 1)) (ap mkLst nA)))) (retO (ap (m_law_alike 100) (cA (ap m_law_read (cA (rdE 0) nA)) (cA (ap mkTup (cA (kS "no note") (cA (kB true) nA))) nA)))) nxO)
  (retO (ap (m_law_alike 100) (cA (ap m_law_read (cA (rdE 0) nA)) (cA (ap mkTup (cA (kS "statement") (cA (b2 ixD (rdE 1) (kI 0)) nA))) nA))))))
def m_law_is_due : List D → R D := runDef 1 g_law_is_due
def g_law_guarded : Ev → R Out :=
  (seqO (forNO 2 0 (seqO (setO 3 (ap mkTup (cA (kS "above") (cA (ap mkTup (cA (b2 subD (kI 1) (b2 ixD (rdE 2) (kI 2))) (cA (ap mkTup (cA (ap mkTup (cA (b2 ixD (rdE 2) (kI 1)) (cA (kI 1) nA))) nA)) nA))) nA))))
    (seqO (setO 4 (ap mkTup (cA (kS "above") (cA (ap mkTup (cA (b2 addD (b2 ixD (rdE 2) (kI 3)) (kI 1)) (cA (ap mkTup (cA (ap mkTup (cA (b2 ixD (rdE 2) (kI 1)) (cA (u1 negD (kI 1)) nA))) nA)) nA))) nA))))
    (ifO (tV (b2 eqD (b2 ixD (rdE 2) (kI 0)) (kS "some"))) (setO 1 (ap mkTup (cA (kS "some") (cA (b2 ixD (rdE 2) (kI 1)) (cA (ap mkTup (cA (kS "and") (cA (ap mkTup (cA (rdE 3) (cA (rdE 4) (cA (rdE 1) nA)))) nA))) nA))))) (setO 1 (ap mkTup (cA (kS "all") (cA (b2 ixD (rdE 2) (kI 1)) (cA (ap mkTup (cA (kS "or") (cA (ap mkTup (cA (ap mkTup (cA (kS "not") (cA (rdE 3) nA))) (cA (rdE 1) (cA (ap mkTup (cA (kS "not") (cA (rdE 4) nA))) nA)))) nA))) nA)))))))))
  (retN 1))
def m_law_guarded : List D → R D := runDef 3 g_law_guarded
def g_law_decided (rec : List D → R D) : Ev → R Out :=
  (seqO (ifO (tV (b2 eqD (rdE 0) (ap mkLst nA))) (seqO (unpO [5, 6, 9] (rdE 1))
    (seqO (ifO (tV (b2 eqD (rdE 5) (kS "some"))) (retO (ap m_law_some (cA (rdE 9) (cA (rdE 6) (cA (rdE 2) nA))))) nxO)
    (retO (vNot (ap m_law_some (cA (ap mkTup (cA (kS "not") (cA (rdE 9) nA))) (cA (rdE 6) (cA (rdE 2) nA)))))))) nxO)
  (seqO (unpO [5, 6, 7, 8] (b2 ixD (rdE 0) (u1 negD (kI 1))))
  (seqO (setO 3 (ap dictD (cA (rdE 2) nA)))
  (seqO (forRO 4 (cA (rdE 7) (cA (b2 addD (rdE 8) (kI 1)) nA)) rng2 (seqO (dputO 3 (rdE 6) (rdE 4))
    (ifO (tV (b2 eqD (ap rec (cA (sl3 (rdE 0) sN (sS (u1 negD (kI 1)))) (cA (rdE 1) (cA (rdE 3) nA)))) (b2 eqD (rdE 5) (kS "some")))) (retO (b2 eqD (rdE 5) (kS "some"))) nxO)))
  (retO (b2 eqD (rdE 5) (kS "all")))))))
def m_law_decided : Nat → List D → R D
  | 0 => fun _ => .stuck
  | n + 1 => runDef 7 (g_law_decided (m_law_decided n))
def g_law_rows_of : Ev → R Out :=
  (seqO (setO 3 (ap mkLst nA))
  (seqO (forRO 4 (cA (rdE 1) nA) rng1 (seqO (setO 5 (ap m_law_cell_at (cA (rdE 0) (cA (b2 addD (kI 3) (rdE 4)) nA))))
    (seqO (setO 6 (b2 subD (b2 modD (b2 divD (rdE 5) (kI 8)) (kI 7)) (kI 3)))
    (appO 3 (ap mkTup (cA (b2 ixD (ap mkLst (cA (kS "some") (cA (kS "all") nA))) (b2 modD (rdE 5) (kI 2))) (cA (b2 ixD (rdE 2) (b2 modD (b2 divD (rdE 5) (kI 2)) (kI 4))) (cA (rdE 6) (cA (b2 addD (b2 subD (rdE 6) (kI 1)) (b2 modD (b2 divD (rdE 5) (kI 56)) (kI 4))) nA)))))))))
  (retN 3)))
def m_law_rows_of : List D → R D := runDef 4 g_law_rows_of
def g_law_bound : Ev → R Out :=
  (seqO (ifO (tV (b2 eqD (rdE 0) (kS "some"))) (retO (ap m_law_some (cA (rdE 1) (cA (rdE 2) (cA (rdE 3) nA))))) nxO)
  (retO (vNot (ap m_law_some (cA (ap mkTup (cA (kS "not") (cA (rdE 1) nA))) (cA (rdE 2) (cA (rdE 3) nA)))))))
def m_law_bound : List D → R D := runDef 0 g_law_bound
def g_law_whole_of : Ev → R Out :=
  (seqO (ifO (tV (b2 eqD (rdE 0) (kI 0))) (retO (ap mkTup (cA (kS "and") (cA (ap mkTup (cA (rdE 2) (cA (rdE 1) nA))) nA)))) nxO)
  (seqO (ifO (tV (b2 eqD (rdE 0) (kI 1))) (retO (ap mkTup (cA (kS "or") (cA (ap mkTup (cA (rdE 1) (cA (rdE 2) nA))) nA)))) nxO)
  (seqO (ifO (tV (b2 eqD (rdE 0) (kI 2))) (retO (ap mkTup (cA (kS "not") (cA (ap mkTup (cA (kS "or") (cA (ap mkTup (cA (rdE 2) (cA (rdE 1) nA))) nA))) nA)))) nxO)
  (retN 1))))
def m_law_whole_of : List D → R D := runDef 0 g_law_whole_of
def g_law_joined : Ev → R Out :=
  (seqO (ifO (tV (b2 eqD (rdE 0) (kI 0))) (retO (vAnd (rdE 1) (rdT 2))) nxO)
  (seqO (ifO (tV (b2 eqD (rdE 0) (kI 1))) (retO (vOr (rdE 1) (rdT 2))) nxO)
  (seqO (ifO (tV (b2 eqD (rdE 0) (kI 2))) (retO (vNot (vOr (rdE 1) (rdT 2)))) nxO)
  (retN 1))))
def m_law_joined : List D → R D := runDef 0 g_law_joined
end
end Pf

set_option Elab.async false
set_option linter.all false
set_option maxRecDepth 100000
set_option maxHeartbeats 4000000
namespace Pf
open PySem L2
/-! ## what the mirrors reckon: cells, numbers, names -/
theorem forR_ind {j : Nat} {body : Ev → R Out} {xs : List T} {ρ : Ev} (I : Nat → Ev → Prop) (h : ∀ (i : Nat) x ρ, xs[i]? = some x → I i ρ → ∃ ρ', body (ρ.set j (.d (.t x) true)) = .ok (.nx ρ') ∧ I (i + 1) ρ') (h0 : I 0 ρ) :
    ∃ ρ', forR j body xs ρ = .ok (.nx ρ') ∧ I xs.length ρ' := by
  induction xs generalizing ρ I with
  | nil => exact ⟨ρ, rfl, h0⟩
  | cons y ys ih =>
    obtain ⟨ρ', e, hi⟩ := h 0 y ρ rfl h0
    obtain ⟨ρ2, e2, hi2⟩ := ih (ρ := ρ') (fun i => I (i + 1)) (fun i x r hx hI => h (i + 1) x r (by simpa using hx) hI) hi
    refine ⟨ρ2, ?_, hi2⟩
    unfold forR
    rw [e]
    exact e2
theorem rngT_inv {lo : Int} {n i : Nat} {x : T} (h : (rngT lo n)[i]? = some x) : x = .int (lo + (i : Nat)) ∧ i < n := by
  by_cases hi : i < n
  · rw [rngT_get hi] at h
    injection h with h
    exact ⟨h.symm, hi⟩
  · rw [List.getElem?_eq_none (by rw [rngT_len]; omega)] at h; cases h
theorem forR_rng {j : Nat} {body : Ev → R Out} {lo : Int} {n : Nat} {ρ : Ev} (I : Nat → Ev → Prop) (h : ∀ (i : Nat) ρ, i < n → I i ρ → ∃ ρ', body (ρ.set j (.d (.t (.int (lo + i))) true)) = .ok (.nx ρ') ∧ I (i + 1) ρ') (h0 : I 0 ρ) :
    ∃ ρ', forR j body (rngT lo n) ρ = .ok (.nx ρ') ∧ I n ρ' := by
  obtain ⟨ρ', e, hI⟩ := forR_ind (xs := rngT lo n) I (fun i x r hx hI => by
    obtain ⟨rfl, hi⟩ := rngT_inv hx
    exact h i r hi hI) h0
  rw [rngT_len] at hI
  exact ⟨ρ', e, hI⟩
theorem fmod_pos {a b : Int} (h : 0 < b) : a.fmod b = a % b := Int.fmod_eq_emod_of_nonneg a (by omega)
theorem fdiv_pos {a b : Int} (h : 0 < b) : a.fdiv b = a / b := Int.fdiv_eq_ediv_of_nonneg a (by omega)

/-! ### the operators at data -/
@[simp] theorem add_ii (i j : Int) : addD (.t (.int i)) (.t (.int j)) = .ok (.t (.int (i + j))) := id rfl
@[simp] theorem sub_ii (i j : Int) : subD (.t (.int i)) (.t (.int j)) = .ok (.t (.int (i - j))) := id rfl
@[simp] theorem neg_i (i : Int) : negD (.t (.int i)) = .ok (.t (.int (-i))) := id rfl
@[simp] theorem lt_ii (i j : Int) : ltD (.t (.int i)) (.t (.int j)) = .ok (.t (.bl (decide (i < j)))) := id rfl
@[simp] theorem gt_ii (i j : Int) : gtD (.t (.int i)) (.t (.int j)) = .ok (.t (.bl (decide (j < i)))) := id rfl
@[simp] theorem le_ii (i j : Int) : leD (.t (.int i)) (.t (.int j)) = .ok (.t (.bl (decide (i ≤ j)))) := id rfl
@[simp] theorem ge_ii (i j : Int) : geD (.t (.int i)) (.t (.int j)) = .ok (.t (.bl (decide (j ≤ i)))) := id rfl
@[simp] theorem mod_ii (i j : Int) (h : 0 < j) : modD (.t (.int i)) (.t (.int j)) = .ok (.t (.int (i % j))) := by
  simp only [modD, fmod_pos h]; rw [if_pos (by omega)]
@[simp] theorem div_ii (i j : Int) (h : 0 < j) (h2 : j < 1073741824) : divD (.t (.int i)) (.t (.int j)) = .ok (.t (.int (i / j))) := by
  simp only [divD, fdiv_pos h]; rw [if_pos]
  simp only [divOk, Bool.or_eq_true, Bool.and_eq_true, decide_eq_true_eq]; left; omega
theorem mulOk_l {i j : Int} (h : -18446744073709551616 < i) (h2 : i < 18446744073709551616) : mulOk i j = true := by
  simp only [mulOk, small64, Bool.or_eq_true, Bool.and_eq_true, decide_eq_true_eq]; left; left; omega
theorem mulOk_r {i j : Int} (h : -18446744073709551616 < j) (h2 : j < 18446744073709551616) : mulOk i j = true := by
  simp only [mulOk, small64, Bool.or_eq_true, Bool.and_eq_true, decide_eq_true_eq]; left; right; omega
theorem mulOk_big {i j : Int} {m : Nat} (hm : m ≤ 400000) (h : i.natAbs < 2 ^ m) (h2 : j.natAbs < 2 ^ m) : mulOk i j = true := by
  simp only [mulOk, small64, Bool.or_eq_true, Bool.and_eq_true, decide_eq_true_eq]; right
  have key : ∀ n : Nat, n < 2 ^ m → n.log2 ≤ m := fun n h => by
    by_cases hz : n = 0
    · subst hz; exact Nat.zero_le _
    · exact Nat.le_of_lt ((Nat.log2_lt hz).2 h)
  have := key _ h; have := key _ h2; omega
@[simp] theorem mul_l (i j : Int) (h : -18446744073709551616 < i) (h2 : i < 18446744073709551616) : mulD (.t (.int i)) (.t (.int j)) = .ok (.t (.int (i * j))) := by
  simp only [mulD]; rw [if_pos (mulOk_l h h2)]
@[simp] theorem mul_r (i j : Int) (h : -18446744073709551616 < j) (h2 : j < 18446744073709551616) : mulD (.t (.int i)) (.t (.int j)) = .ok (.t (.int (i * j))) := by
  simp only [mulD]; rw [if_pos (mulOk_r h h2)]
@[simp] theorem asB_b (b : Bool) : asB (.t (.bl b)) = .ok b := id rfl
@[simp] theorem asInt_i (b : Int) : asInt (.t (.int b)) = .ok (some b) := id rfl
@[simp] theorem asTs_n : asTs [] = .ok [] := id rfl
@[simp] theorem asTs_c (x : T) (r : List D) : asTs (.t x :: r) = asTs r >>= fun xs => .ok (x :: xs) := id rfl
@[simp] theorem selL_l (xs : List T) : selL (.lst xs) = .ok xs := id rfl
@[simp] theorem selT_t (xs : List T) : selT (.t (.tup xs)) = .ok xs := id rfl
@[simp] theorem asDct_d (xs : List (Str × Int)) : asDct (.dct xs) = .ok xs := id rfl
@[simp] theorem listD_l (xs : List T) : listD [.lst xs] = .ok (.lst xs) := id rfl
@[simp] theorem listD_t (xs : List T) : listD [.t (.tup xs)] = .ok (.lst xs) := id rfl
@[simp] theorem tupleD_l (xs : List T) : tupleD [.lst xs] = .ok (.t (.tup xs)) := id rfl
@[simp] theorem tupleD_t (xs : List T) : tupleD [.t (.tup xs)] = .ok (.t (.tup xs)) := id rfl
@[simp] theorem dictD_d (xs : List (Str × Int)) : dictD [.dct xs] = .ok (.dct xs) := id rfl
@[simp] theorem lenD_l (xs : List T) : lenD [.lst xs] = .ok (.t (.int xs.length)) := id rfl
@[simp] theorem lenD_t (xs : List T) : lenD [.t (.tup xs)] = .ok (.t (.int xs.length)) := id rfl
@[simp] theorem lenD_d (xs : List (Str × Int)) : lenD [.dct xs] = .ok (.t (.int xs.length)) := id rfl
@[simp] theorem lenD_s (xs : List Int) : lenD [.scr xs] = .ok (.t (.int xs.length)) := id rfl
@[simp] theorem eq_ii (i j : Int) : eqD (.t (.int i)) (.t (.int j)) = .ok (.t (.bl (decide (i = j)))) := id rfl
@[simp] theorem ne_ii (i j : Int) : neD (.t (.int i)) (.t (.int j)) = .ok (.t (.bl (!decide (i = j)))) := id rfl
@[simp] theorem eq_ss (i j : Str) : eqD (.t (.str i)) (.t (.str j)) = .ok (.t (.bl (decide (i = j)))) := id rfl
@[simp] theorem ne_ss (i j : Str) : neD (.t (.str i)) (.t (.str j)) = .ok (.t (.bl (!decide (i = j)))) := id rfl
@[simp] theorem rdE_0 (x : D) (o : Bool) (r : Ev) : rdE 0 (.d x o :: r) = .ok x := id rfl
@[simp] theorem rdE_s (n : Nat) (s : Sl) (r : Ev) : rdE (n + 1) (s :: r) = rdE n r := id rfl
@[simp] theorem rdT_0 (x : T) (o : Bool) (r : Ev) : rdT 0 (.d (.t x) o :: r) = .ok (.t x) := id rfl
@[simp] theorem rdT_s (n : Nat) (s : Sl) (r : Ev) : rdT (n + 1) (s :: r) = rdT n r := id rfl
@[simp] theorem un_0 : un 0 = [] := id rfl
@[simp] theorem un_s (n : Nat) : un (n + 1) = .un :: un n := id rfl
@[simp] theorem rng1_n (n : Nat) (h : n < 4611686018427387904) : rng1 [.t (.int n)] = .ok (0, n) := by
  simp only [rng1]; rw [if_pos (by omega)]; simp
@[simp] theorem rng1_0 : rng1 [.t (.int 0)] = .ok (0, 0) := rng1_n 0 (by decide)
@[simp] theorem rng1_1 : rng1 [.t (.int 1)] = .ok (0, 1) := rng1_n 1 (by decide)
@[simp] theorem rng1_2 : rng1 [.t (.int 2)] = .ok (0, 2) := rng1_n 2 (by decide)
@[simp] theorem rng1_3 : rng1 [.t (.int 3)] = .ok (0, 3) := rng1_n 3 (by decide)
@[simp] theorem rng1_4 : rng1 [.t (.int 4)] = .ok (0, 4) := rng1_n 4 (by decide)
@[simp] theorem rng1_5 : rng1 [.t (.int 5)] = .ok (0, 5) := rng1_n 5 (by decide)
@[simp] theorem rng1_6 : rng1 [.t (.int 6)] = .ok (0, 6) := rng1_n 6 (by decide)
@[simp] theorem rng1_7 : rng1 [.t (.int 7)] = .ok (0, 7) := rng1_n 7 (by decide)
@[simp] theorem rng1_8 : rng1 [.t (.int 8)] = .ok (0, 8) := rng1_n 8 (by decide)
@[simp] theorem rng1_9 : rng1 [.t (.int 9)] = .ok (0, 9) := rng1_n 9 (by decide)
@[simp] theorem andR_ok (b : Bool) (y : R Bool) : andR (.ok b) y = if b then y else .ok false := id rfl
@[simp] theorem orR_ok (b : Bool) (y : R Bool) : orR (.ok b) y = if b then .ok true else y := id rfl
@[simp] theorem andV_ok (b : Bool) (y : R D) : andV (.ok (.t (.bl b))) y = if b then y else .ok (.t (.bl false)) := id rfl
@[simp] theorem orV_ok (b : Bool) (y : R D) : orV (.ok (.t (.bl b))) y = if b then .ok (.t (.bl true)) else y := id rfl
@[simp] theorem mkTup_ok (ds : List D) : mkTup ds = asTs ds >>= fun xs => if xs.length ≤ 16777216 then .ok (.t (.tup xs)) else .stuck := id rfl
@[simp] theorem mkLst_ok (ds : List D) : mkLst ds = asTs ds >>= fun xs => if xs.length ≤ 16777216 then .ok (.lst xs) else .stuck := id rfl
@[simp] theorem ix_l (xs : List T) (i : Int) : ixD (.lst xs) (.t (.int i)) = match atI xs i with | some x => .ok (.t x) | none => .stuck := id rfl
@[simp] theorem ix_t (xs : List T) (i : Int) : ixD (.t (.tup xs)) (.t (.int i)) = match atI xs i with | some x => .ok (.t x) | none => .stuck := id rfl
@[simp] theorem ix_s (xs : List Int) (i : Int) : ixD (.scr xs) (.t (.int i)) = match atI xs i with | some n => .ok (.t (.int n)) | none => .stuck := id rfl
@[simp] theorem atI_nat {α : Type} (xs : List α) (k : Nat) : atI xs (k : Int) = xs[k]? := by
  unfold atI ixN
  rw [if_pos (by omega)]
  by_cases h : k < xs.length
  · rw [if_pos (by omega)]; simp
  · rw [if_neg (by omega)]; rw [List.getElem?_eq_none (by omega)]; rfl
@[simp] theorem atI_0 {α : Type} (xs : List α) : atI xs 0 = xs[0]? := atI_nat xs 0
@[simp] theorem atI_1 {α : Type} (xs : List α) : atI xs 1 = xs[1]? := atI_nat xs 1
@[simp] theorem atI_2 {α : Type} (xs : List α) : atI xs 2 = xs[2]? := atI_nat xs 2
@[simp] theorem atI_3 {α : Type} (xs : List α) : atI xs 3 = xs[3]? := atI_nat xs 3
@[simp] theorem atI_4 {α : Type} (xs : List α) : atI xs 4 = xs[4]? := atI_nat xs 4
@[simp] theorem atI_5 {α : Type} (xs : List α) : atI xs 5 = xs[5]? := atI_nat xs 5
@[simp] theorem atI_6 {α : Type} (xs : List α) : atI xs 6 = xs[6]? := atI_nat xs 6
@[simp] theorem atI_7 {α : Type} (xs : List α) : atI xs 7 = xs[7]? := atI_nat xs 7
@[simp] theorem atI_8 {α : Type} (xs : List α) : atI xs 8 = xs[8]? := atI_nat xs 8
@[simp] theorem atI_9 {α : Type} (xs : List α) : atI xs 9 = xs[9]? := atI_nat xs 9
@[simp] theorem atI_10 {α : Type} (xs : List α) : atI xs 10 = xs[10]? := atI_nat xs 10
@[simp] theorem atI_11 {α : Type} (xs : List α) : atI xs 11 = xs[11]? := atI_nat xs 11
@[simp] theorem atI_12 {α : Type} (xs : List α) : atI xs 12 = xs[12]? := atI_nat xs 12
@[simp] theorem atI_13 {α : Type} (xs : List α) : atI xs 13 = xs[13]? := atI_nat xs 13
@[simp] theorem atI_14 {α : Type} (xs : List α) : atI xs 14 = xs[14]? := atI_nat xs 14
@[simp] theorem atI_15 {α : Type} (xs : List α) : atI xs 15 = xs[15]? := atI_nat xs 15
@[simp] theorem atI_16 {α : Type} (xs : List α) : atI xs 16 = xs[16]? := atI_nat xs 16
@[simp] theorem atI_17 {α : Type} (xs : List α) : atI xs 17 = xs[17]? := atI_nat xs 17
@[simp] theorem atI_18 {α : Type} (xs : List α) : atI xs 18 = xs[18]? := atI_nat xs 18
@[simp] theorem atI_19 {α : Type} (xs : List α) : atI xs 19 = xs[19]? := atI_nat xs 19
@[simp] theorem atI_20 {α : Type} (xs : List α) : atI xs 20 = xs[20]? := atI_nat xs 20
@[simp] theorem atI_21 {α : Type} (xs : List α) : atI xs 21 = xs[21]? := atI_nat xs 21
theorem atI_pos {α : Type} (xs : List α) {k : Int} (h : 0 ≤ k) : atI xs k = xs[k.toNat]? := by
  have e := atI_nat xs k.toNat
  rwa [Int.toNat_of_nonneg h] at e
@[simp] theorem forR_nil (j : Nat) (b : Ev → R Out) (ρ : Ev) : forR j b [] ρ = .ok (.nx ρ) := id rfl
def Nx (f : Ev → R Out) : R Out → R Out
  | .ok (.nx ρ) => f ρ
  | r => r
def Rt : R Out → R D
  | .ok (.rt d) => .ok d
  | .ok (.nx _) => .ok (.t .non)
  | .raise c => .raise c
  | _ => .stuck
theorem runDef_Rt (n : Nat) (g : Ev → R Out) (ds : List D) : runDef n g ds = Rt (g (ds.map (Sl.d · false) ++ un n)) := by
  unfold runDef
  generalize g (ds.map (Sl.d · false) ++ un n) = r
  cases r with
  | ok o => cases o <;> rfl
  | _ => rfl
@[simp] theorem lcR_nil (j : Nat) (c : Ev → R Bool) (el : Ev → R D) (ρ : Ev) : lcR j c el ρ [] = .ok [] := id rfl
@[simp] theorem lcR_cons (j : Nat) (c : Ev → R Bool) (el : Ev → R D) (ρ : Ev) (x : T) (xs : List T) : lcR j c el ρ (x :: xs) = c (ρ.set j (.d (.t x) true)) >>= fun b => if b then el (ρ.set j (.d (.t x) true)) >>= fun d => match d with
      | .t y => lcR j c el ρ xs >>= fun r => .ok (y :: r)
      | _ => .stuck
    else lcR j c el ρ xs := id rfl
@[simp] theorem NR_ok {α : Type} (a : α) : NR (.ok a) = .ok a := id rfl
@[simp] theorem rngT_4 : rngT 0 4 = [.int 0, .int 1, .int 2, .int 3] := id rfl
@[simp] theorem rngT_3 : rngT 0 3 = [.int 0, .int 1, .int 2] := id rfl
@[simp] theorem lcRg_eq (j : Nat) (f : Ev → R (List D)) (rg : List D → R (Int × Nat)) (c : Ev → R Bool) (el : Ev → R D) (ρ : Ev) : lcRg j f rg c el ρ =
  (f ρ >>= rg >>= fun p => if p.2 ≤ 16777216 then NR (lcR j c el (ρ.set j .un) (rngT p.1 p.2)) >>= fun r => .ok (.lst r) else .stuck) := id rfl
@[simp] theorem lcN_eq (j : Nat) (f : Ev → R D) (sel : D → R (List T)) (c : Ev → R Bool) (el : Ev → R D) (ρ : Ev) : lcN j f sel c el ρ =
  (f ρ >>= sel >>= fun xs => if xs.length ≤ 16777216 then NR (lcR j c el (ρ.set j .un) xs) >>= fun r => .ok (.lst r) else .stuck) := id rfl
@[simp] theorem Rt_rt (d : D) : Rt (.ok (.rt d)) = .ok d := id rfl
def cell (ns : List Int) (k : Nat) : Int := ns[k]?.getD 0
theorem cell_at {ns : List Int} {k : Nat} : m_law_cell_at [.scr ns, .t (.int (k : Int))] = .ok (.t (.int (cell ns k))) := by
  unfold m_law_cell_at g_law_cell_at
  rw [runDef_Rt]
  by_cases h : k < ns.length
  · simp [h, cell]
  · simp [h, cell]
theorem cell_at' {ns : List Int} (i : Int) (h : 0 ≤ i) : m_law_cell_at [.scr ns, .t (.int i)] = .ok (.t (.int (cell ns i.toNat))) := by
  have e := cell_at (ns := ns) (k := i.toNat)
  rw [Int.toNat_of_nonneg h] at e
  exact e
/-! ### numbers -/
theorem big_ex (c : Int) : ∃ n : Int, n.natAbs < 10 ^ 60 ∧ m_law_big_by [.t (.int c)] = .ok (.t (.int n)) := by
  unfold m_law_big_by g_law_big_by
  rw [runDef_Rt]
  by_cases h : 0 < c % 4
  · refine ⟨c / 4 % 19 - 9, ?_, ?_⟩
    · have : (c / 4 % 19 - 9).natAbs < 20 := by omega
      exact Nat.lt_of_lt_of_le this (by decide)
    · simp [h]
  · have hr : ∃ (n : Nat), 1 + c / 8 % 60 = (n : Int) ∧ n ≤ 60 := ⟨(1 + c / 8 % 60).toNat, by omega, by omega⟩
    obtain ⟨n, hn, hn60⟩ := hr
    obtain ⟨ρ', e, mm, x, k, rfl, hx⟩ := forR_rng (j := 3) (lo := 0) (n := n) (body := (seqO (setO 2 (b2 modD (b2 addD (b2 mulD (rdE 2) (kI 48271)) (kI 11)) (kI 2147483647)))
    (setO 1 (b2 addD (b2 mulD (rdE 1) (kI 10)) (b2 modD (b2 divD (rdE 2) (kI 7)) (kI 10)))))) (ρ := [.d (.t (.int c)) false, .d (.t (.int 0)) true, .d (.t (.int c)) true, .un])
      (fun i ρ => ∃ (m x : Int) (k : Sl), ρ = [.d (.t (.int c)) false, .d (.t (.int x)) true, .d (.t (.int m)) true, k] ∧ 0 ≤ x ∧ x < 10 ^ i)
      (fun i ρ hi ⟨m, x, k, e, h0, h1⟩ => by
        subst e
        refine ⟨_, by simp; rfl, ?_⟩
        refine ⟨_, _, _, rfl, ?_, ?_⟩
        · omega
        · rw [Int.pow_succ]
          omega) ⟨c, 0, .un, rfl, by decide, by decide⟩
    have hx2 : x < 10 ^ 60 := Int.lt_of_lt_of_le hx.2 (by
      have : (10 : Nat) ^ n ≤ 10 ^ 60 := Nat.pow_le_pow_right (by decide) hn60
      exact_mod_cast this)
    have h4 : c / 4 % 2 = 0 ∨ c / 4 % 2 = 1 := by omega
    have hnb : n < 4611686018427387904 := by omega
    rcases h4 with h4 | h4
    · refine ⟨x, by omega, ?_⟩
      simp [h, hn, hnb, e, h4]
    · refine ⟨-x, by omega, ?_⟩
      simp [h, hn, hnb, e, h4]
/-! ### texts -/
def sl (l : List Nat) : Str := ⟨l.toArray⟩
@[simp] theorem sl_len (l : List Nat) : (sl l).length = l.length := by simp [sl, Str.length]
@[simp] theorem sl_cps (l : List Nat) : (sl l).cps.toList = l := by simp [sl]
theorem sl_inj {a b : List Nat} : sl a = sl b ↔ a = b := ⟨fun h => by have := congrArg (fun s : Str => s.cps.toList) h; simpa using this, fun h => by rw [h]⟩
theorem sl_of (s : Str) : s = sl s.cps.toList := by cases s; simp [sl]
theorem add_sl (a b : List Nat) (h : a.length + b.length ≤ 16777216) : addD (.t (.str (sl a))) (.t (.str (sl b))) = .ok (.t (.str (sl (a ++ b)))) := by
  simp only [addD, sl_len, if_pos h]
  have e : sl a ++ sl b = sl (a ++ b) := by
    show (⟨a.toArray ++ b.toArray⟩ : Str) = _
    simp [sl]
  rw [e]
theorem take_sl (l : List Nat) (k : Nat) (h : l.length ≤ 16777216) : slD (.t (.str (sl l))) none (some (k : Int)) = .ok (.t (.str (sl (l.take k)))) := by
  simp only [slD, sl_len, if_pos h]
  have e : cutS (sl l) none (some (k : Int)) = sl (l.take k) := by
    unfold cutS
    rw [HT.sIx_nat, HT.sIx_none]
    simp [sl, Str.length, List.take_eq_take_iff]
  rw [e]
theorem drop_sl (l : List Nat) (k : Nat) (h : l.length ≤ 16777216) : slD (.t (.str (sl l))) (some (k : Int)) none = .ok (.t (.str (sl (l.drop k)))) := by
  simp only [slD, sl_len, if_pos h]
  have e : cutS (sl l) (some (k : Int)) none = sl (l.drop k) := by
    unfold cutS
    rw [HT.sIx_nat, HT.sIx_none]
    simp only [sl, Str.length, List.size_toArray]
    congr 2
    by_cases hk : k ≤ l.length
    · rw [Nat.min_eq_left hk, List.take_of_length_le (by simp)]
    · rw [Nat.min_eq_right (by omega), List.drop_eq_nil_of_le (Nat.le_refl _), List.drop_eq_nil_of_le (by omega), List.take_nil]
  rw [e]
theorem rep_fold (c : Nat) : ∀ (n : Nat) (a : Array Nat), (List.replicate n #[c]).foldl (· ++ ·) a = a ++ (List.replicate n c).toArray
  | 0, a => by simp
  | n + 1, a => by
    rw [List.replicate_succ, List.foldl_cons, rep_fold c n, List.replicate_succ]
    apply Array.toList_inj.mp
    simp
theorem mul_sl (c : Nat) (n : Nat) (h : 1 ≤ n) (h2 : n ≤ 1000) : mulD (.t (.str (sl [c]))) (.t (.int n)) = .ok (.t (.str (sl (List.replicate n c)))) := by
  simp only [mulD, sl_len, List.length_cons, List.length_nil]
  rw [if_pos (by omega)]
  have e : Txt.mul (sl [c]) n = sl (List.replicate n c) := by
    unfold Txt.mul
    rw [if_neg (by omega)]
    by_cases h1 : n = 1
    · subst h1; simp
    · rw [if_neg (by simp [sl, Str.length]; omega)]
      simp only [Int.toNat_natCast, sl]
      rw [rep_fold]; simp
  rw [e]
theorem letters_eq : ("abcdefghijklmnopqrstuvwxyz" : Str) = sl (List.range' 97 26) := by decide +kernel
theorem ix_letter (i : Int) (h : 0 ≤ i) (h2 : i < 26) : ixD (.t (.str (sl (List.range' 97 26)))) (.t (.int i)) = .ok (.t (.str (sl [97 + i.toNat]))) := by
  simp only [ixD, sl_len, sl_cps, atI_pos _ h, List.length_range']
  rw [if_pos (by decide), List.getElem?_range' (by omega)]
  simp [sl]
def Nm (s : Str) : Prop := 1 ≤ s.cps.toList.length ∧ s.cps.toList.length ≤ 8 ∧ ∀ c ∈ s.cps.toList, 97 ≤ c ∧ c ≤ 122
def USUAL : List Str := ["new", "k", "t", "x", "y", "z", "step", "size", "bound", "some", "and", "above", "nought", "goes", "not", "or", "all", "far", "low", "high", "name", "newone", "number", "it", "lined"]
theorem usual_nm : ∀ x ∈ USUAL, Nm x := by
  have : USUAL.all (fun x => decide (1 ≤ x.cps.toList.length) && decide (x.cps.toList.length ≤ 8) && x.cps.toList.all (fun c => decide (97 ≤ c) && decide (c ≤ 122))) = true := by decide +kernel
  intro x hx
  have h := List.all_eq_true.mp this x hx
  simp only [Bool.and_eq_true, decide_eq_true_eq, List.all_eq_true] at h
  exact ⟨h.1.1, h.1.2, fun c hc => h.2 c hc⟩
theorem usual_nodup : USUAL.Nodup := by decide +kernel
theorem names_ex (c : Int) : ∃ a : List Str, a.length = 4 ∧ a.Nodup ∧ (∀ x ∈ a, Nm x) ∧ m_law_names_by [.t (.int c)] = .ok (.lst (a.map T.str)) := by
  unfold m_law_names_by g_law_names_by
  rw [runDef_Rt]
  have hr : ∃ (n : Nat), 1 + c % 8 = (n : Int) ∧ n ≤ 8 ∧ 1 ≤ n := ⟨(1 + c % 8).toNat, by omega, by omega, by omega⟩
  obtain ⟨n, hn, hn8, hn1⟩ := hr
  obtain ⟨ρ', e, w, m, k, rfl, hw, hl⟩ := forR_rng (j := 5) (lo := 0) (n := n) (body := (seqO (setO 4 (b2 modD (b2 addD (b2 mulD (rdE 4) (kI 48271)) (kI 11)) (kI 2147483647)))
    (setO 3 (b2 addD (rdE 3) (b2 ixD (rdE 1) (b2 modD (b2 divD (rdE 4) (kI 7)) (kI 26))))))) (ρ := [.d (.t (.int c)) false, .d (.t (.str (sl (List.range' 97 26)))) true, .d (.t (.int n)) true, .d (.t (.str (sl []))) true, .d (.t (.int c)) true, .un, .un, .un])
      (fun i ρ => ∃ (w : List Nat) (m : Int) (k : Sl), ρ = [.d (.t (.int c)) false, .d (.t (.str (sl (List.range' 97 26)))) true, .d (.t (.int n)) true, .d (.t (.str (sl w))) true, .d (.t (.int m)) true, k, .un, .un] ∧ w.length = i ∧ ∀ c ∈ w, 97 ≤ c ∧ c ≤ 122)
      (fun i ρ hi ⟨w, m, k, e, h0, h1⟩ => by
        subst e
        have hb : ∀ (z : Int), ixD (.t (.str (sl (List.range' 97 26)))) (.t (.int (z % 26))) = .ok (.t (.str (sl [97 + (z % 26).toNat]))) := fun z => ix_letter _ (by omega) (by omega)
        have ha : ∀ z, addD (.t (.str (sl w))) (.t (.str (sl [z]))) = .ok (.t (.str (sl (w ++ [z])))) := fun z => add_sl w [z] (by simp; omega)
        refine ⟨_, by simp only [seqO, setO, b2, kI, rdE_0, rdE_s, mul_r, add_ii, R.ok_bind, List.set_cons_succ, List.set_cons_zero]; simp [hb, ha]; rfl, ?_⟩
        refine ⟨_, _, _, rfl, by simp; omega, ?_⟩
        intro x hx
        rcases List.mem_append.mp hx with hx | hx
        · exact h1 x hx
        · simp at hx; omega) ⟨[], c, .un, rfl, rfl, by simp⟩
  have h1 : (("" : Str)) = sl [] := by decide +kernel
  by_cases c1 : c / 8 % 3 = 2
  · obtain ⟨x, w', rfl⟩ : ∃ x w', w = x :: w' := by
      cases w with
      | nil => simp at hw; omega
      | cons x w' => exact ⟨x, w', rfl⟩
    have ht : slD (.t (.str (sl (x :: w')))) none (some 1) = .ok (.t (.str (sl [x]))) := take_sl (x :: w') 1 (by rw [hw]; omega)
    have hm : ∀ z : Int, mulD (.t (.str (sl [x]))) (.t (.int (1 + z % 8))) = .ok (.t (.str (sl (List.replicate (1 + z % 8).toNat x)))) := fun z => by
      have := mul_sl x (1 + z % 8).toNat (by omega) (by omega)
      rwa [Int.toNat_of_nonneg (by omega)] at this
    refine ⟨[sl (List.replicate (1 + (0 + c / 24) % 8).toNat x), sl (List.replicate (1 + (1 + c / 24) % 8).toNat x), sl (List.replicate (1 + (2 + c / 24) % 8).toNat x), sl (List.replicate (1 + (3 + c / 24) % 8).toNat x)], rfl, ?_, ?_, ?_⟩
    · have key : ∀ a b : Nat, a ≠ b → sl (List.replicate a x) ≠ sl (List.replicate b x) := fun a b h e => h (by
        have := congrArg List.length (sl_inj.mp e); simpa using this)
      simp only [List.nodup_cons, List.mem_cons, List.not_mem_nil, or_false, not_or, List.nodup_nil, and_true, not_false_eq_true]
      refine ⟨⟨key _ _ ?_, key _ _ ?_, key _ _ ?_⟩, ⟨key _ _ ?_, key _ _ ?_⟩, key _ _ ?_⟩ <;> omega
    · have key : ∀ a : Nat, 1 ≤ a → a ≤ 8 → Nm (sl (List.replicate a x)) := fun a h h2 => by
        refine ⟨by simpa using h, by simpa using h2, ?_⟩
        intro y hy
        simp at hy
        rw [hy.2]
        exact hl x (by simp)
      simp only [List.mem_cons, List.not_mem_nil, or_false, forall_eq_or_imp, forall_eq]
      refine ⟨key _ ?_ ?_, key _ ?_ ?_, key _ ?_ ?_, key _ ?_ ?_⟩ <;> omega
    · simp [hn, show n < 4611686018427387904 by omega, letters_eq, h1, e, c1, ht, hm, -Int.reduceAdd]
  by_cases c2 : c / 8 % 9 = 1 ∨ c / 8 % 9 = 4 ∨ c / 8 % 9 = 7
  · have hU : addD (D.lst [T.str "new", T.str "k", T.str "t", T.str "x", T.str "y", T.str "z", T.str "step", T.str "size", T.str "bound", T.str "some", T.str "and", T.str "above", T.str "nought", T.str "goes"]) (D.lst [T.str "not", T.str "or", T.str "all", T.str "far", T.str "low", T.str "high", T.str "name", T.str "newone", T.str "number", T.str "it", T.str "lined"]) = .ok (.lst (USUAL.map T.str)) := by rfl
    have hi : inD (.t (.int (c / 8 % 9))) (.lst [.int 1, .int 4, .int 7]) = .ok (.t (.bl true)) := by
      rcases c2 with h | h | h <;> rw [h] <;> rfl
    have hL : USUAL.length = 25 := rfl
    have hx : ∀ i : Int, ixD (.lst (USUAL.map T.str)) (.t (.int (i % 25))) = .ok (.t (.str (USUAL[(i % 25).toNat]'(by rw [hL]; omega)))) := fun i => by
      rw [ix_l, atI_pos _ (by omega), List.getElem?_map, List.getElem?_eq_getElem (by rw [hL]; omega)]
      rfl
    have hd : ∀ i j : Int, i % 25 ≠ j % 25 → USUAL[(i % 25).toNat]'(by rw [hL]; omega) ≠ USUAL[(j % 25).toNat]'(by rw [hL]; omega) := fun i j h e => h (by
      have := (List.getElem_inj usual_nodup).mp e
      omega)
    refine ⟨[USUAL[((c / 72 + 0) % 25).toNat]'(by rw [hL]; omega), USUAL[((c / 72 + 7) % 25).toNat]'(by rw [hL]; omega), USUAL[((c / 72 + 12) % 25).toNat]'(by rw [hL]; omega), USUAL[((c / 72 + 18) % 25).toNat]'(by rw [hL]; omega)], rfl, ?_, ?_, ?_⟩
    · simp only [List.nodup_cons, List.mem_cons, List.not_mem_nil, or_false, not_or, List.nodup_nil, and_true, not_false_eq_true]
      refine ⟨⟨hd _ _ ?_, hd _ _ ?_, hd _ _ ?_⟩, ⟨hd _ _ ?_, hd _ _ ?_⟩, hd _ _ ?_⟩ <;> omega
    · simp only [List.mem_cons, List.not_mem_nil, or_false, forall_eq_or_imp, forall_eq]
      exact ⟨usual_nm _ (List.getElem_mem _), usual_nm _ (List.getElem_mem _), usual_nm _ (List.getElem_mem _), usual_nm _ (List.getElem_mem _)⟩
    · simp [hn, show n < 4611686018427387904 by omega, letters_eq, h1, e, c1, hi, hU, hx, -Int.add_zero, -Int.reduceAdd]
  · have hi : inD (.t (.int (c / 8 % 9))) (.lst [.int 1, .int 4, .int 7]) = .ok (.t (.bl false)) := by
      simp [inD, inB, flatT, eqvT]; omega
    obtain ⟨p, hp, hpn⟩ : ∃ p : Nat, c / 24 % (n : Int) = p ∧ p < n := ⟨(c / 24 % (n : Int)).toNat, by
      have := Int.emod_nonneg (c / 24) (show (n : Int) ≠ 0 by omega)
      omega, by
      have := Int.emod_nonneg (c / 24) (show (n : Int) ≠ 0 by omega)
      have := Int.emod_lt_of_pos (c / 24) (show 0 < (n : Int) by omega)
      omega⟩
    have hb : ∀ (z : Int), ixD (.t (.str (sl (List.range' 97 26)))) (.t (.int (z % 26))) = .ok (.t (.str (sl [97 + (z % 26).toNat]))) := fun z => ix_letter _ (by omega) (by omega)
    have ht : slD (.t (.str (sl w))) none (some (p : Int)) = .ok (.t (.str (sl (w.take p)))) := take_sl w p (by omega)
    have hr : slD (.t (.str (sl w))) (some ((p : Int) + 1)) none = .ok (.t (.str (sl (w.drop (p + 1))))) := drop_sl w (p + 1) (by omega)
    have ha : ∀ z, addD (.t (.str (sl (w.take p)))) (.t (.str (sl [z]))) = .ok (.t (.str (sl (w.take p ++ [z])))) := fun z => add_sl _ _ (by simp; omega)
    have ha2 : ∀ z, addD (.t (.str (sl (w.take p ++ [z])))) (.t (.str (sl (w.drop (p + 1))))) = .ok (.t (.str (sl (w.take p ++ [z] ++ w.drop (p + 1))))) := fun z => add_sl _ _ (by simp; omega)
    have hm : ∀ (i : Int), modD (.t (.int i)) (.t (.int n)) = .ok (.t (.int (i % n))) := fun i => mod_ii _ _ (by omega)
    have key : ∀ a b : Nat, a ≠ b → sl (w.take p ++ [a] ++ w.drop (p + 1)) ≠ sl (w.take p ++ [b] ++ w.drop (p + 1)) := fun a b h e => h (by
      have := sl_inj.mp e
      simpa using this)
    have key2 : ∀ a : Nat, 97 ≤ a → a ≤ 122 → Nm (sl (w.take p ++ [a] ++ w.drop (p + 1))) := fun a h h2 => by
      refine ⟨by simp; omega, by simp; omega, ?_⟩
      intro y hy
      simp only [sl_cps, List.append_assoc, List.mem_append, List.mem_cons, List.not_mem_nil, or_false] at hy
      rcases hy with hy | hy | hy
      · exact hl y (List.mem_of_mem_take hy)
      · omega
      · exact hl y (List.mem_of_mem_drop hy)
    refine ⟨[sl (w.take p ++ [97 + ((c / 192 + 0) % 26).toNat] ++ w.drop (p + 1)), sl (w.take p ++ [97 + ((c / 192 + 7) % 26).toNat] ++ w.drop (p + 1)), sl (w.take p ++ [97 + ((c / 192 + 14) % 26).toNat] ++ w.drop (p + 1)), sl (w.take p ++ [97 + ((c / 192 + 21) % 26).toNat] ++ w.drop (p + 1))], rfl, ?_, ?_, ?_⟩
    · simp only [List.nodup_cons, List.mem_cons, List.not_mem_nil, or_false, not_or, List.nodup_nil, and_true, not_false_eq_true]
      refine ⟨⟨key _ _ ?_, key _ _ ?_, key _ _ ?_⟩, ⟨key _ _ ?_, key _ _ ?_⟩, key _ _ ?_⟩ <;> omega
    · simp only [List.mem_cons, List.not_mem_nil, or_false, forall_eq_or_imp, forall_eq]
      refine ⟨key2 _ ?_ ?_, key2 _ ?_ ?_, key2 _ ?_ ?_, key2 _ ?_ ?_⟩ <;> omega
    · simp [hn, show n < 4611686018427387904 by omega, letters_eq, h1, e, c1, hi, hm, hp, hb, ht, hr, ha, ha2, -Int.add_zero, -List.append_assoc]
end Pf

set_option Elab.async false
set_option linter.all false
set_option maxRecDepth 100000
set_option maxHeartbeats 4000000
namespace Pf
open PySem L2
/-! ## sums -/
abbrev Prs := List (Str × Int)
def prT (p : Str × Int) : T := .tup [.str p.1, .int p.2]
def smT (n : Int) (ps : Prs) : T := .tup [.int n, .tup (ps.map prT)]
def tot (s : Str) : Prs → Int
  | [] => 0
  | p :: r => (if p.1 = s then p.2 else 0) + tot s r
theorem tot_app (s : Str) (a b : Prs) : tot s (a ++ b) = tot s a + tot s b := by
  induction a with
  | nil => simp [tot]
  | cons p r ih => simp only [List.cons_append, tot, ih]; omega
def getS (kvs : Prs) (s : Str) : Option (Str × Int) := kvs.find? fun q => decide (q.1 = s)
theorem getS_put (kvs : Prs) (k : Str) (v : Int) (s : Str) : getS (putL kvs k v) s = if s = k then some (k, v) else getS kvs s := by
  unfold putL
  split
  · rename_i h
    induction kvs with
    | nil => simp at h
    | cons p r ih =>
      by_cases hp : p.1 = k
      · by_cases hs : s = k
        · subst hs; simp [getS, hp]
        · have hs' : ¬ k = s := fun e => hs e.symm
          by_cases ha : (r.any fun p => decide (p.1 = k)) = true
          · have := ih ha
            rw [if_neg hs] at this ⊢
            simp only [getS, List.map_cons, hp, if_true, List.find?_cons, hs', decide_false] at this ⊢
            exact this
          · have e : r.map (fun p => if p.1 = k then (p.1, v) else p) = r := by
              conv => rhs; rw [← List.map_id r]
              apply List.map_congr_left
              intro q hq
              have : ¬ q.1 = k := fun e => ha (List.any_eq_true.mpr ⟨q, hq, by simp [e]⟩)
              simp [this]
            rw [if_neg hs]
            simp only [getS, List.map_cons, hp, if_true, List.find?_cons, hs', decide_false, e]
      · have ha : (r.any fun p => decide (p.1 = k)) = true := by simpa [hp] using h
        have := ih ha
        simp only [getS, List.map_cons, if_neg hp, List.find?_cons] at this ⊢
        by_cases hs : s = k
        · subst hs; simp [hp]; simpa using this
        · rw [if_neg hs] at this ⊢
          rw [this]
  · rename_i h
    have hn : ∀ q ∈ kvs, ¬ q.1 = k := fun q hq e => h (List.any_eq_true.mpr ⟨q, hq, by simp [e]⟩)
    simp only [getS, List.find?_append]
    by_cases hs : s = k
    · subst hs
      rw [List.find?_eq_none.mpr (fun q hq => by simpa using hn q hq)]
      simp
    · have hs' : ¬ k = s := fun e => hs e.symm
      simp [hs, hs']
theorem keys_put (kvs : Prs) (k : Str) (v : Int) : (putL kvs k v).map (·.1) = if k ∈ kvs.map (·.1) then kvs.map (·.1) else kvs.map (·.1) ++ [k] := by
  unfold putL
  by_cases h : (kvs.any fun p => decide (p.1 = k)) = true
  · have : k ∈ kvs.map (·.1) := by
      obtain ⟨q, hq, e⟩ := List.any_eq_true.mp h
      exact List.mem_map.mpr ⟨q, hq, by simpa using e⟩
    rw [if_pos h, if_pos this, List.map_map]
    apply List.map_congr_left
    intro q _
    simp only [Function.comp]; split <;> rfl
  · have : ¬ k ∈ kvs.map (·.1) := fun hk => by
      obtain ⟨q, hq, e⟩ := List.mem_map.mp hk
      exact h (List.any_eq_true.mpr ⟨q, hq, by simpa using e⟩)
    rw [if_neg h, if_neg this]; simp
def vl (kvs : Prs) (s : Str) : Int := match getS kvs s with | some p => p.2 | none => 0
theorem vl_put (kvs : Prs) (k : Str) (v : Int) (s : Str) : vl (putL kvs k v) s = if s = k then v else vl kvs s := by
  unfold vl; rw [getS_put]; by_cases h : s = k <;> simp [h]
theorem getS_some {kvs : Prs} {s : Str} (h : s ∈ kvs.map (·.1)) : ∃ p, getS kvs s = some p := by
  cases e : getS kvs s with
  | some p => exact ⟨p, rfl⟩
  | none =>
    obtain ⟨q, hq, e2⟩ := List.mem_map.mp h
    have := List.find?_eq_none.mp e q hq
    simp [e2] at this
theorem getS_none {kvs : Prs} {s : Str} (h : ¬ s ∈ kvs.map (·.1)) : getS kvs s = none := by
  apply List.find?_eq_none.mpr
  intro q hq e
  exact h (List.mem_map.mpr ⟨q, hq, by simpa using e⟩)
theorem dget_vl {kvs : Prs} {s : Str} (h : s ∈ kvs.map (·.1)) : dgetD (.dct kvs) (.t (.str s)) = .ok (.t (.int (vl kvs s))) := by
  obtain ⟨p, e⟩ := getS_some h
  unfold getS at e
  simp [dgetD, vl, getS, e]
theorem dget2_vl {kvs : Prs} {s : Str} : dget2 kvs (.t (.str s)) (.t (.int 0)) = .ok (.t (.int (vl kvs s))) := by
  cases h : kvs.find? (fun q => decide (q.1 = s)) <;> simp [dget2, vl, getS, h]
/-- the dict of a list of pairs -/
structure DictOf (kvs ps : Prs) : Prop where
  nd : (kvs.map (·.1)).Nodup
  mem : ∀ s, s ∈ kvs.map (·.1) ↔ s ∈ ps.map (·.1)
  vl : ∀ s, vl kvs s = tot s ps
  len : kvs.length ≤ ps.length
theorem DictOf.nil : DictOf [] [] := ⟨by simp, by simp, fun s => rfl, by simp⟩
theorem DictOf.put {kvs ps : Prs} (h : DictOf kvs ps) (p : Str × Int) : DictOf (putL kvs p.1 (Pf.vl kvs p.1 + p.2)) (ps ++ [p]) := by
  refine ⟨?_, fun s => ?_, fun s => ?_, ?_⟩
  · rw [keys_put]; split
    · exact h.nd
    · rename_i hk
      rw [List.nodup_append]
      refine ⟨h.nd, by simp, ?_⟩
      intro a ha b hb e
      simp at hb
      exact hk (by rw [← hb, ← e]; exact ha)
  · rw [keys_put]; split
    · rename_i hk
      rw [h.mem, List.map_append, List.mem_append]
      refine ⟨.inl, fun q => q.elim id fun q => ?_⟩
      simp at q; subst q
      exact (h.mem _).mp hk
    · rw [List.mem_append, h.mem, List.map_append, List.mem_append]
      simp
  · rw [vl_put, tot_app, h.vl, h.vl]
    simp only [tot]
    by_cases e : s = p.1
    · subst e; simp
    · rw [if_neg e, if_neg (fun q => e q.symm)]; omega
  · have := congrArg List.length (keys_put kvs p.1 (Pf.vl kvs p.1 + p.2))
    have hl := h.len
    rw [List.length_map] at this
    rw [this]
    split <;> simp <;> omega
theorem onceS_mem (s : Str) : ∀ l, s ∈ onceS l ↔ s ∈ l
  | [] => by simp [onceS]
  | x :: r => by
    unfold onceS
    split
    · rename_i h
      rw [onceS_mem s r, List.mem_cons]
      exact ⟨.inr, fun q => q.elim (fun e => e ▸ h) id⟩
    · rw [List.mem_cons, List.mem_cons, onceS_mem s r]
theorem onceS_nodup : ∀ l, (onceS l).Nodup
  | [] => by simp [onceS]
  | x :: r => by
    unfold onceS
    split
    · exact onceS_nodup r
    · rename_i h
      exact List.nodup_cons.mpr ⟨fun q => h ((onceS_mem x r).mp q), onceS_nodup r⟩
theorem srt_perm {a b : List Str} (h : a.Perm b) : srtS a = srtS b :=
  ((srtS_perm a).trans (h.trans (srtS_perm b).symm)).eq_of_pairwise (fun a b _ _ h1 h2 => leS_antisymm h1 h2) (srtS_pw a) (srtS_pw b)
theorem srt_filter {a b : List Str} (p : Str → Bool) (ha : a.Nodup) (hb : b.Nodup) (h : ∀ s, p s = true → (s ∈ a ↔ s ∈ b)) : (srtS a).filter p = (srtS b).filter p := by
  have pm : ((srtS a).filter p).Perm ((srtS b).filter p) := by
    rw [List.perm_ext_iff_of_nodup (((srtS_perm a).nodup_iff.mpr ha).filter p) (((srtS_perm b).nodup_iff.mpr hb).filter p)]
    intro s
    rw [List.mem_filter, List.mem_filter, (srtS_perm a).mem_iff, (srtS_perm b).mem_iff]
    exact ⟨fun q => ⟨(h s q.2).mp q.1, q.2⟩, fun q => ⟨(h s q.2).mpr q.1, q.2⟩⟩
  exact pm.eq_of_pairwise (fun a b _ _ h1 h2 => leS_antisymm h1 h2) ((srtS_pw a).filter p) ((srtS_pw b).filter p)
theorem tot_mem {s : Str} : ∀ {ps : Prs}, tot s ps ≠ 0 → s ∈ ps.map (·.1)
  | [], h => absurd rfl h
  | p :: r, h => by
    by_cases e : p.1 = s
    · simp [e]
    · simp only [tot, if_neg e, Int.zero_add] at h
      exact List.mem_cons_of_mem _ (tot_mem h)
/-- names rising, each once, with its shares added, none nought -/
def norm (ps : Prs) : Prs := ((srtS (onceS (ps.map (·.1)))).filter fun s => decide (tot s ps ≠ 0)).map fun s => (s, tot s ps)
theorem norm_over {ps : Prs} {N : List Str} (hn : N.Nodup) (h : ∀ p ∈ ps, p.1 ∈ N) : norm ps = ((srtS N).filter fun s => decide (tot s ps ≠ 0)).map fun s => (s, tot s ps) := by
  unfold norm
  rw [srt_filter _ (onceS_nodup _) hn]
  intro s hs
  rw [onceS_mem]
  refine ⟨fun q => ?_, fun _ => tot_mem (by simpa using hs)⟩
  obtain ⟨p, hp, rfl⟩ := List.mem_map.mp q
  exact h p hp
theorem lcR_map {α : Type} {j : Nat} {c : Ev → R Bool} {el : Ev → R D} {ρ : Ev} (g : α → T) (p : α → Bool) (f : α → T) : ∀ (xs : List α), (∀ x ∈ xs, c (ρ.set j (.d (.t (g x)) true)) = .ok (p x) ∧ (p x = true → el (ρ.set j (.d (.t (g x)) true)) = .ok (.t (f x)))) →
    lcR j c el ρ (xs.map g) = .ok ((xs.filter p).map f)
  | [], _ => rfl
  | x :: xs, h => by
    obtain ⟨h1, h2⟩ := h x (by simp)
    rw [List.map_cons, lcR_cons, h1, lcR_map g p f xs fun y hy => h y (List.mem_cons_of_mem _ hy)]
    cases e : p x with
    | false => simp [e]
    | true => simp [e, h2 e]
theorem made_eq (n : Int) (ps : Prs) (h : ps.length < 64) : m_made [.t (.int n), .lst (ps.map prT)] = .ok (.t (smT n (norm ps))) := by
  unfold m_made g_made
  rw [runDef_Rt]
  obtain ⟨ρ', e, kvs, k, rfl, hk⟩ := forR_ind (j := 3) (xs := ps.map prT) (body := dputO 2 (b2 ixD (rdE 3) (kI 0)) (b2 addD (dg2 (rdE 2) (b2 ixD (rdE 3) (kI 0)) (kI 0)) (b2 ixD (rdE 3) (kI 1))))
    (ρ := [.d (.t (.int n)) false, .d (.lst (ps.map prT)) false, .d (.dct []) true, .un, .un])
    (fun i ρ => ∃ (kvs : Prs) (k : Sl), ρ = [.d (.t (.int n)) false, .d (.lst (ps.map prT)) false, .d (.dct kvs) true, k, .un] ∧ DictOf kvs (ps.take i))
    (fun i x ρ hx ⟨kvs, k, e, hk⟩ => by
      subst e
      rw [List.getElem?_map] at hx
      cases hp : ps[i]? with
      | none => rw [hp] at hx; cases hx
      | some p =>
        rw [hp] at hx
        injection hx with hx
        subst hx
        have hl := hk.len
        rw [List.length_take] at hl
        have hl2 : kvs.length < 16777216 := by omega
        refine ⟨_, by simp [dputO, prT, dget2_vl, hl2]; rfl, ?_⟩
        refine ⟨_, _, rfl, ?_⟩
        have := hk.put p
        rw [List.take_add_one, hp]
        exact this) ⟨[], .un, rfl, by simpa using DictOf.nil⟩
  rw [List.length_map, List.take_length] at hk
  have hl := hk.len
  have key : srtS (kvs.map (·.1)) = srtS (onceS (ps.map (·.1))) := srt_perm ((List.perm_ext_iff_of_nodup hk.nd (onceS_nodup _)).mpr fun s => by rw [onceS_mem, hk.mem])
  have hs : sortedD [.dct kvs] = .ok (.lst ((srtS (onceS (ps.map (·.1)))).map T.str)) := by
    simp only [sortedD]; rw [if_pos (by omega), key]
  have hlc : lcR 4 (tV (b2 neD (b2 dgetD (rdE 2) (rdE 4)) (kI 0))) (ap mkTup (cA (rdE 4) (cA (b2 dgetD (rdE 2) (rdE 4)) nA))) [.d (.t (.int n)) false, .d (.lst (ps.map prT)) false, .d (.dct kvs) true, k, .un] ((srtS (onceS (ps.map (·.1)))).map T.str)
      = .ok (((srtS (onceS (ps.map (·.1)))).filter fun s => decide (tot s ps ≠ 0)).map fun s => prT (s, tot s ps)) := by
    refine lcR_map T.str _ _ _ fun s hm => ?_
    have hm2 : s ∈ kvs.map (·.1) := by
      rw [hk.mem, ← onceS_mem, ← (srtS_perm _).mem_iff]; exact hm
    have hd := dget_vl hm2
    rw [hk.vl] at hd
    constructor
    · simp [hd]
    · intro _; simp [hd, prT]
  have hlen : (srtS (onceS (ps.map (·.1)))).length ≤ 16777216 := by
    have := (srtS_perm (kvs.map (·.1))).length_eq
    rw [key, List.length_map] at this
    omega
  have e2 : ((srtS (onceS (ps.map (·.1)))).filter fun s => decide (tot s ps ≠ 0)).map (fun s => prT (s, tot s ps)) = (norm ps).map prT := by
    unfold norm; rw [List.map_map]; rfl
  rw [e2] at hlc
  simp [forNO, e, hs, hlc, hlen, smT]

theorem share_eq (n : Int) (s : Str) : ∀ (ps : Prs), m_share [.t (smT n ps), .t (.str s)] = .ok (.t (.int (vl ps s))) := by
  intro ps
  unfold m_share g_share
  rw [runDef_Rt]
  have key : ∀ (qs : Prs) (k : Sl), Rt ((seqO (forTO 2 (fun _ => .ok (.t (.tup (qs.map prT)))) (ifO (tV (b2 eqD (b2 ixD (rdE 2) (kI 0)) (rdE 1))) (retO (b2 ixD (rdE 2) (kI 1))) nxO)) (retO (kI 0))) [.d (.t (smT n ps)) false, .d (.t (.str s)) false, k]) = .ok (.t (.int (vl qs s))) := by
    intro qs
    induction qs with
    | nil => intro k; simp [vl, getS]
    | cons p r ih =>
      intro k
      have ih' := ih (.d (.t (prT p)) true)
      simp only [seqO, forTO, R.ok_bind] at ih'
      by_cases e : p.1 = s
      · simp [forR, prT, e, vl, getS]
      · have hv : vl (p :: r) s = vl r s := by simp [vl, getS, e]
        rw [hv, ← ih']
        simp [forR, prT, e]
  have := key ps .un
  simp only [seqO, forTO, R.ok_bind] at this
  simp [smT]
  simpa [smT] using this
/-! ### alike -/
@[simp] theorem isi_int (s : String) (i : Int) : isiD s (.t (.int i)) = match kitB "int" s with | some b => .ok (.t (.bl b)) | none => .stuck := id rfl
@[simp] theorem isi_str (s : String) (i : Str) : isiD s (.t (.str i)) = match kitB "str" s with | some b => .ok (.t (.bl b)) | none => .stuck := id rfl
@[simp] theorem isi_bl (s : String) (i : Bool) : isiD s (.t (.bl i)) = match kitB "bool" s with | some b => .ok (.t (.bl b)) | none => .stuck := id rfl
@[simp] theorem isi_non (s : String) : isiD s (.t .non) = match kitB "NoneType" s with | some b => .ok (.t (.bl b)) | none => .stuck := id rfl
@[simp] theorem isi_tup (s : String) (i : List T) : isiD s (.t (.tup i)) = match kitB "tuple" s with | some b => .ok (.t (.bl b)) | none => .stuck := id rfl
@[simp] theorem isi_lst (s : String) (i : List T) : isiD s (.lst i) = match kitB "list" s with | some b => .ok (.t (.bl b)) | none => .stuck := id rfl
@[simp] theorem kit_ii : kitB "int" "int" = some true := by decide +kernel
@[simp] theorem kit_ib : kitB "int" "bool" = some false := by decide +kernel
@[simp] theorem kit_is : kitB "int" "str" = some false := by decide +kernel
@[simp] theorem kit_it : kitB "int" "tuple" = some false := by decide +kernel
@[simp] theorem kit_il : kitB "int" "list" = some false := by decide +kernel
@[simp] theorem kit_bi : kitB "bool" "int" = some true := by decide +kernel
@[simp] theorem kit_bb : kitB "bool" "bool" = some true := by decide +kernel
@[simp] theorem kit_bs : kitB "bool" "str" = some false := by decide +kernel
@[simp] theorem kit_bt : kitB "bool" "tuple" = some false := by decide +kernel
@[simp] theorem kit_si : kitB "str" "int" = some false := by decide +kernel
@[simp] theorem kit_sb : kitB "str" "bool" = some false := by decide +kernel
@[simp] theorem kit_ss : kitB "str" "str" = some true := by decide +kernel
@[simp] theorem kit_st : kitB "str" "tuple" = some false := by decide +kernel
@[simp] theorem kit_ti : kitB "tuple" "int" = some false := by decide +kernel
@[simp] theorem kit_tb : kitB "tuple" "bool" = some false := by decide +kernel
@[simp] theorem kit_ts : kitB "tuple" "str" = some false := by decide +kernel
@[simp] theorem kit_tt : kitB "tuple" "tuple" = some true := by decide +kernel
@[simp] theorem kit_tl : kitB "tuple" "list" = some false := by decide +kernel
@[simp] theorem kit_li : kitB "list" "int" = some false := by decide +kernel
@[simp] theorem kit_ls : kitB "list" "str" = some false := by decide +kernel
@[simp] theorem kit_lt : kitB "list" "tuple" = some false := by decide +kernel
@[simp] theorem kit_ll : kitB "list" "list" = some true := by decide +kernel
@[simp] theorem isD_non (x : D) : isD x (.t .non) = .ok (.t (.bl (match x with | .t .non => true | _ => false))) := id rfl
@[simp] theorem isD_bl (x : D) (b : Bool) : isD x (.t (.bl b)) = .ok (.t (.bl (match x with | .t (.bl c) => decide (c = b) | _ => false))) := id rfl
@[simp] theorem whole_int (i : Int) : m_law_whole [.t (.int i)] = .ok (.t (.bl true)) := by
  unfold m_law_whole g_law_whole
  rw [runDef_Rt]
  simp
mutual
def goodT : Nat → T → Bool
  | 0, _ => false
  | _ + 1, .bl b => b
  | n + 1, .tup xs => decide (xs.length < 4611686018427387904) && goodTs n xs
  | _ + 1, _ => true
def goodTs : Nat → List T → Bool
  | _, [] => true
  | n, x :: xs => goodT n x && goodTs n xs
end
theorem goodTs_get {n : Nat} : ∀ {xs : List T} {i : Nat} {x : T}, goodTs n xs = true → xs[i]? = some x → goodT n x = true
  | [], i, x, _, e => by simp at e
  | y :: ys, 0, x, h, e => by
    simp [goodTs] at h e; rw [← e]; exact h.1
  | y :: ys, i + 1, x, h, e => by
    simp [goodTs] at h e; exact goodTs_get h.2 e
theorem alike_seq {n : Nat} {xs : List T} (ih : ∀ x, goodT n x = true → m_law_alike n [.t x, .t x] = .ok (.t (.bl true))) (d : D) (hd : ∀ (i : Nat) (x : T), xs[i]? = some x → ixD d (.t (.int i)) = .ok (.t x)) (h : goodTs n xs = true) (k : Sl) :
    ∃ k', forR 2 (ifO (tNot1 (tV (ap (m_law_alike n) (cA (b2 ixD (rdE 0) (rdE 2)) (cA (b2 ixD (rdE 1) (rdE 2)) nA))))) (retO (kB false)) nxO) (rngT 0 xs.length) [.d d false, .d d false, k] = .ok (.nx [.d d false, .d d false, k']) := by
  obtain ⟨ρ', e, k', rfl⟩ := forR_rng (j := 2) (lo := 0) (n := xs.length) (body := ifO (tNot1 (tV (ap (m_law_alike n) (cA (b2 ixD (rdE 0) (rdE 2)) (cA (b2 ixD (rdE 1) (rdE 2)) nA))))) (retO (kB false)) nxO) (ρ := [.d d false, .d d false, k])
    (fun i ρ => ∃ k, ρ = [.d d false, .d d false, k])
    (fun i ρ hi ⟨k, e⟩ => by
      subst e
      have hg := goodTs_get h (List.getElem?_eq_getElem hi)
      have := ih _ hg
      exact ⟨[.d d false, .d d false, .d (.t (.int (i : Nat))) true], by simp [hd i _ (List.getElem?_eq_getElem hi), this], _, rfl⟩) ⟨k, rfl⟩
  exact ⟨k', e⟩
theorem alike_self : ∀ (n : Nat) (x : T), goodT n x = true → m_law_alike n [.t x, .t x] = .ok (.t (.bl true))
  | 0, x, h => by simp [goodT] at h
  | n + 1, x, h => by
    unfold m_law_alike g_law_alike
    rw [runDef_Rt]
    cases x with
    | non => simp
    | bl b => simp [goodT] at h; subst h; simp
    | int i => simp
    | str s => simp
    | tup xs =>
      simp only [goodT, Bool.and_eq_true, decide_eq_true_eq] at h
      obtain ⟨k', e⟩ := alike_seq (xs := xs) (alike_self n) (.t (.tup xs)) (fun i x hx => by simp [hx]) h.2 .un
      simp [h.1, e]
theorem alike_list (n : Nat) (xs : List T) (hl : xs.length < 4611686018427387904) (h : goodTs n xs = true) : m_law_alike (n + 1) [.lst xs, .lst xs] = .ok (.t (.bl true)) := by
  unfold m_law_alike g_law_alike
  rw [runDef_Rt]
  obtain ⟨k', e⟩ := alike_seq (xs := xs) (alike_self n) (.lst xs) (fun i x hx => by simp [hx]) h .un
  simp [hl, e]
theorem good_prs (n : Nat) (ps : Prs) : goodTs (n + 2) (ps.map prT) = true := by
  induction ps with
  | nil => rfl
  | cons p r ih => simp [goodTs, goodT, prT]; exact ih
theorem good_sm (n : Nat) (m : Int) (ps : Prs) (h : ps.length < 4611686018427387904) : goodT (n + 4) (smT m ps) = true := by
  simp [smT, goodT, goodTs, good_prs, h]
/-! ### names and numbers as functions -/
noncomputable def big (c : Int) : Int := Classical.choose (big_ex c)
theorem big_lt (c : Int) : (big c).natAbs < 10 ^ 60 := (Classical.choose_spec (big_ex c)).1
@[simp] theorem big_eq (c : Int) : m_law_big_by [.t (.int c)] = .ok (.t (.int (big c))) := (Classical.choose_spec (big_ex c)).2
noncomputable def nams (c : Int) : List Str := Classical.choose (names_ex c)
theorem nams_len (c : Int) : (nams c).length = 4 := (Classical.choose_spec (names_ex c)).1
theorem nams_nd (c : Int) : (nams c).Nodup := (Classical.choose_spec (names_ex c)).2.1
theorem nams_nm (c : Int) : ∀ x ∈ nams c, Nm x := (Classical.choose_spec (names_ex c)).2.2.1
@[simp] theorem nams_eq (c : Int) : m_law_names_by [.t (.int c)] = .ok (.lst ((nams c).map T.str)) := (Classical.choose_spec (names_ex c)).2.2.2
theorem sorted_strs (l : List Str) (h : l.length < 64) : sortedD [.lst (l.map T.str)] = .ok (.lst ((srtS l).map T.str)) := by
  simp only [sortedD, asStrs_map, if_pos h]
theorem sum_ints (l : List Int) : sumD [.lst (l.map T.int)] = .ok (.t (.int l.sum)) := by
  simp only [sumD, asInts_map]
theorem tot_sum (s : Str) (ps : Prs) : ((ps.filter fun p => decide (p.1 = s)).map (·.2)).sum = tot s ps := by
  induction ps with
  | nil => rfl
  | cons p r ih => by_cases h : p.1 = s <;> simp [tot, h, ih]
theorem vl_map (f : Str → Int) (s : Str) : ∀ L : List Str, vl (L.map fun s => (s, f s)) s = if s ∈ L then f s else 0
  | [] => rfl
  | x :: r => by
    have ih := vl_map f s r
    by_cases h : x = s
    · subst h; simp [vl, getS]
    · have h' : ¬ s = x := fun e => h e.symm
      have e2 : vl ((x :: r).map fun s => (s, f s)) s = vl (r.map fun s => (s, f s)) s := by simp [vl, getS, h]
      rw [e2, ih]; simp [h']
theorem vl_norm (ps : Prs) (s : Str) : vl (norm ps) s = tot s ps := by
  unfold norm
  rw [vl_map]
  split
  · rfl
  · rename_i h
    rw [List.mem_filter, (srtS_perm _).mem_iff, onceS_mem] at h
    by_cases e : tot s ps = 0
    · exact e.symm
    · exact absurd ⟨tot_mem e, by simpa using e⟩ h
end Pf

set_option Elab.async false
set_option linter.all false
set_option maxRecDepth 100000
set_option maxHeartbeats 4000000
namespace Pf
open PySem L2
/-! ## statements -/
@[simp] theorem kd_not_and : ((("not" : Str)) = (("and" : Str))) = False := eq_false (by decide +kernel)
@[simp] theorem kd_not_or : ((("not" : Str)) = (("or" : Str))) = False := eq_false (by decide +kernel)
@[simp] theorem kd_not_some : ((("not" : Str)) = (("some" : Str))) = False := eq_false (by decide +kernel)
@[simp] theorem kd_not_all : ((("not" : Str)) = (("all" : Str))) = False := eq_false (by decide +kernel)
@[simp] theorem kd_not_above : ((("not" : Str)) = (("above" : Str))) = False := eq_false (by decide +kernel)
@[simp] theorem kd_not_nought : ((("not" : Str)) = (("nought" : Str))) = False := eq_false (by decide +kernel)
@[simp] theorem kd_not_goes : ((("not" : Str)) = (("goes" : Str))) = False := eq_false (by decide +kernel)
@[simp] theorem kd_and_not : ((("and" : Str)) = (("not" : Str))) = False := eq_false (by decide +kernel)
@[simp] theorem kd_and_or : ((("and" : Str)) = (("or" : Str))) = False := eq_false (by decide +kernel)
@[simp] theorem kd_and_some : ((("and" : Str)) = (("some" : Str))) = False := eq_false (by decide +kernel)
@[simp] theorem kd_and_all : ((("and" : Str)) = (("all" : Str))) = False := eq_false (by decide +kernel)
@[simp] theorem kd_and_above : ((("and" : Str)) = (("above" : Str))) = False := eq_false (by decide +kernel)
@[simp] theorem kd_and_nought : ((("and" : Str)) = (("nought" : Str))) = False := eq_false (by decide +kernel)
@[simp] theorem kd_and_goes : ((("and" : Str)) = (("goes" : Str))) = False := eq_false (by decide +kernel)
@[simp] theorem kd_or_not : ((("or" : Str)) = (("not" : Str))) = False := eq_false (by decide +kernel)
@[simp] theorem kd_or_and : ((("or" : Str)) = (("and" : Str))) = False := eq_false (by decide +kernel)
@[simp] theorem kd_or_some : ((("or" : Str)) = (("some" : Str))) = False := eq_false (by decide +kernel)
@[simp] theorem kd_or_all : ((("or" : Str)) = (("all" : Str))) = False := eq_false (by decide +kernel)
@[simp] theorem kd_or_above : ((("or" : Str)) = (("above" : Str))) = False := eq_false (by decide +kernel)
@[simp] theorem kd_or_nought : ((("or" : Str)) = (("nought" : Str))) = False := eq_false (by decide +kernel)
@[simp] theorem kd_or_goes : ((("or" : Str)) = (("goes" : Str))) = False := eq_false (by decide +kernel)
@[simp] theorem kd_some_not : ((("some" : Str)) = (("not" : Str))) = False := eq_false (by decide +kernel)
@[simp] theorem kd_some_and : ((("some" : Str)) = (("and" : Str))) = False := eq_false (by decide +kernel)
@[simp] theorem kd_some_or : ((("some" : Str)) = (("or" : Str))) = False := eq_false (by decide +kernel)
@[simp] theorem kd_some_all : ((("some" : Str)) = (("all" : Str))) = False := eq_false (by decide +kernel)
@[simp] theorem kd_some_above : ((("some" : Str)) = (("above" : Str))) = False := eq_false (by decide +kernel)
@[simp] theorem kd_some_nought : ((("some" : Str)) = (("nought" : Str))) = False := eq_false (by decide +kernel)
@[simp] theorem kd_some_goes : ((("some" : Str)) = (("goes" : Str))) = False := eq_false (by decide +kernel)
@[simp] theorem kd_all_not : ((("all" : Str)) = (("not" : Str))) = False := eq_false (by decide +kernel)
@[simp] theorem kd_all_and : ((("all" : Str)) = (("and" : Str))) = False := eq_false (by decide +kernel)
@[simp] theorem kd_all_or : ((("all" : Str)) = (("or" : Str))) = False := eq_false (by decide +kernel)
@[simp] theorem kd_all_some : ((("all" : Str)) = (("some" : Str))) = False := eq_false (by decide +kernel)
@[simp] theorem kd_all_above : ((("all" : Str)) = (("above" : Str))) = False := eq_false (by decide +kernel)
@[simp] theorem kd_all_nought : ((("all" : Str)) = (("nought" : Str))) = False := eq_false (by decide +kernel)
@[simp] theorem kd_all_goes : ((("all" : Str)) = (("goes" : Str))) = False := eq_false (by decide +kernel)
@[simp] theorem kd_above_not : ((("above" : Str)) = (("not" : Str))) = False := eq_false (by decide +kernel)
@[simp] theorem kd_above_and : ((("above" : Str)) = (("and" : Str))) = False := eq_false (by decide +kernel)
@[simp] theorem kd_above_or : ((("above" : Str)) = (("or" : Str))) = False := eq_false (by decide +kernel)
@[simp] theorem kd_above_some : ((("above" : Str)) = (("some" : Str))) = False := eq_false (by decide +kernel)
@[simp] theorem kd_above_all : ((("above" : Str)) = (("all" : Str))) = False := eq_false (by decide +kernel)
@[simp] theorem kd_above_nought : ((("above" : Str)) = (("nought" : Str))) = False := eq_false (by decide +kernel)
@[simp] theorem kd_above_goes : ((("above" : Str)) = (("goes" : Str))) = False := eq_false (by decide +kernel)
@[simp] theorem kd_nought_not : ((("nought" : Str)) = (("not" : Str))) = False := eq_false (by decide +kernel)
@[simp] theorem kd_nought_and : ((("nought" : Str)) = (("and" : Str))) = False := eq_false (by decide +kernel)
@[simp] theorem kd_nought_or : ((("nought" : Str)) = (("or" : Str))) = False := eq_false (by decide +kernel)
@[simp] theorem kd_nought_some : ((("nought" : Str)) = (("some" : Str))) = False := eq_false (by decide +kernel)
@[simp] theorem kd_nought_all : ((("nought" : Str)) = (("all" : Str))) = False := eq_false (by decide +kernel)
@[simp] theorem kd_nought_above : ((("nought" : Str)) = (("above" : Str))) = False := eq_false (by decide +kernel)
@[simp] theorem kd_nought_goes : ((("nought" : Str)) = (("goes" : Str))) = False := eq_false (by decide +kernel)
@[simp] theorem kd_goes_not : ((("goes" : Str)) = (("not" : Str))) = False := eq_false (by decide +kernel)
@[simp] theorem kd_goes_and : ((("goes" : Str)) = (("and" : Str))) = False := eq_false (by decide +kernel)
@[simp] theorem kd_goes_or : ((("goes" : Str)) = (("or" : Str))) = False := eq_false (by decide +kernel)
@[simp] theorem kd_goes_some : ((("goes" : Str)) = (("some" : Str))) = False := eq_false (by decide +kernel)
@[simp] theorem kd_goes_all : ((("goes" : Str)) = (("all" : Str))) = False := eq_false (by decide +kernel)
@[simp] theorem kd_goes_above : ((("goes" : Str)) = (("above" : Str))) = False := eq_false (by decide +kernel)
@[simp] theorem kd_goes_nought : ((("goes" : Str)) = (("nought" : Str))) = False := eq_false (by decide +kernel)
inductive EK where
  | above | nought | goes (h : Int)
inductive F where
  | e (k : EK) (n : Int) (ps : Prs)
  | nt (f : F)
  | nd (b : Bool) (fs : List F)
  | qn (b : Bool) (x : Str) (f : F)
def bw (b : Bool) : Str := if b then "and" else "or"
def qw (b : Bool) : Str := if b then "some" else "all"
mutual
def F.enc : F → T
  | .e .above n ps => .tup [.str "above", smT n ps]
  | .e .nought n ps => .tup [.str "nought", smT n ps]
  | .e (.goes h) n ps => .tup [.str "goes", .int h, smT n ps]
  | .nt f => .tup [.str "not", f.enc]
  | .nd b fs => .tup [.str (bw b), .tup (F.encs fs)]
  | .qn b x f => .tup [.str (qw b), .str x, f.enc]
def F.encs : List F → List T
  | [] => []
  | f :: fs => f.enc :: F.encs fs
end
theorem encs_map : ∀ fs : List F, F.encs fs = fs.map F.enc
  | [] => rfl
  | f :: fs => by simp [F.encs, encs_map fs]
mutual
def F.dep : F → Nat
  | .e _ _ _ => 1
  | .nt f => f.dep + 1
  | .nd _ fs => F.deps fs + 1
  | .qn _ _ f => f.dep + 1
def F.deps : List F → Nat
  | [] => 0
  | f :: fs => max f.dep (F.deps fs)
end
mutual
def F.sz : F → Nat
  | .e _ _ ps => ps.length
  | .nt f => f.sz
  | .nd _ fs => F.szs fs
  | .qn _ _ f => f.sz
def F.szs : List F → Nat
  | [] => 0
  | f :: fs => f.sz + F.szs fs
end
mutual
def F.cnt : F → Nat
  | .e _ _ _ => 1
  | .nt f => f.cnt
  | .nd _ fs => F.cnts fs
  | .qn _ _ f => f.cnt
def F.cnts : List F → Nat
  | [] => 0
  | f :: fs => f.cnt + F.cnts fs
end
mutual
/-- how many of its nodes are no ends -/
def F.nod : F → Nat
  | .e _ _ _ => 0
  | .nt f => f.nod + 1
  | .nd _ fs => F.nods fs + 1
  | .qn _ _ f => f.nod + 1
def F.nods : List F → Nat
  | [] => 0
  | f :: fs => f.nod + F.nods fs
end
mutual
def F.all (P : EK → Int → Prs → Prop) : F → Prop
  | .e k n ps => P k n ps
  | .nt f => f.all P
  | .nd _ fs => F.alls P fs
  | .qn _ _ f => f.all P
def F.alls (P : EK → Int → Prs → Prop) : List F → Prop
  | [] => True
  | f :: fs => f.all P ∧ F.alls P fs
end
mutual
def F.plain : F → Bool
  | .e _ _ _ => true
  | .nt f => f.plain
  | .nd _ fs => F.plains fs
  | .qn _ _ _ => false
def F.plains : List F → Bool
  | [] => true
  | f :: fs => f.plain && F.plains fs
end
mutual
def F.wid : F → Nat
  | .e _ _ _ => 0
  | .nt f => f.wid
  | .nd _ fs => max fs.length (F.wids fs)
  | .qn _ _ f => f.wid
def F.wids : List F → Nat
  | [] => 0
  | f :: fs => max f.wid (F.wids fs)
end
theorem deps_mem {f : F} : ∀ {fs : List F}, f ∈ fs → f.dep ≤ F.deps fs
  | g :: fs, h => by
    rcases List.mem_cons.mp h with rfl | h
    · exact Nat.le_max_left _ _
    · exact Nat.le_trans (deps_mem h) (Nat.le_max_right _ _)
theorem szs_mem {f : F} : ∀ {fs : List F}, f ∈ fs → f.sz ≤ F.szs fs
  | g :: fs, h => by
    rcases List.mem_cons.mp h with rfl | h
    · exact Nat.le_add_right _ _
    · exact Nat.le_trans (szs_mem h) (Nat.le_add_left _ _)
theorem encs_len (fs : List F) : (F.encs fs).length = fs.length := by simp [encs_map]
/-! ### sums of a script -/
def SumOk (N : List Str) (W : Int) (n : Int) (ps : Prs) : Prop := (ps.map (·.1)).Sublist (srtS N) ∧ n.natAbs ≤ 9 ∧ ∀ p ∈ ps, p.2 ≠ 0 ∧ -W ≤ p.2 ∧ p.2 ≤ W
theorem sum_by_ex (c : Int) (N : List Str) (W : Int) (hN : N.length < 64) (hW : 0 < W) (hW2 : W < 1000) : ∃ n ps, SumOk N W n ps ∧ m_law_sum_by [.t (.int c), .lst (N.map T.str), .t (.int W)] = .ok (.t (smT n ps)) := by
  unfold m_law_sum_by g_law_sum_by
  rw [runDef_Rt]
  have hl : (srtS N).length < 64 := by rw [(srtS_perm N).length_eq]; exact hN
  obtain ⟨ρ', e, m, ps, k5, k6, rfl, hs, hp⟩ := forR_ind (j := 5) (xs := (srtS N).map T.str) (body := (seqO (setO 3 (b2 modD (b2 addD (b2 mulD (rdE 3) (kI 48271)) (kI 11)) (kI 2147483647)))
    (seqO (setO 6 (b2 subD (b2 modD (b2 divD (rdE 3) (kI 7)) (b2 addD (b2 mulD (kI 2) (rdE 2)) (kI 1))) (rdE 2)))
    (ifO (tV (b2 neD (rdE 6) (kI 0))) (appO 4 (ap mkTup (cA (rdE 5) (cA (rdE 6) nA)))) nxO))))
    (ρ := [.d (.t (.int c)) false, .d (.lst (N.map T.str)) false, .d (.t (.int W)) false, .d (.t (.int c)) true, .d (.lst []) true, .un, .un])
    (fun i ρ => ∃ (m : Int) (ps : Prs) (k5 k6 : Sl), ρ = [.d (.t (.int c)) false, .d (.lst (N.map T.str)) false, .d (.t (.int W)) false, .d (.t (.int m)) true, .d (.lst (ps.map prT)) true, k5, k6] ∧ (ps.map (·.1)).Sublist ((srtS N).take i) ∧ ∀ p ∈ ps, p.2 ≠ 0 ∧ -W ≤ p.2 ∧ p.2 ≤ W)
    (fun i x ρ hx ⟨m, ps, k5, k6, e, h1, h2⟩ => by
      subst e
      rw [List.getElem?_map] at hx
      cases hs : (srtS N)[i]? with
      | none => rw [hs] at hx; cases hx
      | some s =>
        rw [hs] at hx
        injection hx with hx
        subst hx
        have hlen : ps.length < 16777216 := by
          have := h1.length_le
          rw [List.length_map, List.length_take] at this
          omega
        have hw : 0 < 2 * W + 1 := by omega
        have hw2 : 2 * W + 1 < 1073741824 := by omega
        have hm1 := Int.emod_nonneg ((m * 48271 + 11) % 2147483647 / 7) (show 2 * W + 1 ≠ 0 by omega)
        have hm2 := Int.emod_lt_of_pos ((m * 48271 + 11) % 2147483647 / 7) hw
        generalize hz : (m * 48271 + 11) % 2147483647 / 7 % (2 * W + 1) - W = z
        have hmul : mulD (.t (.int 2)) (.t (.int W)) = .ok (.t (.int (2 * W))) := mul_l _ _ (by decide) (by decide)
        have hmod : ∀ i, modD (.t (.int i)) (.t (.int (2 * W + 1))) = .ok (.t (.int (i % (2 * W + 1)))) := fun i => mod_ii _ _ hw
        by_cases h0 : z = 0
        · refine ⟨_, by simp [hmul, hmod, hz, h0]; rfl, ?_⟩
          refine ⟨_, ps, _, _, rfl, ?_, h2⟩
          rw [List.take_add_one, hs]
          exact h1.trans (List.sublist_append_left _ _)
        · refine ⟨_, by simp [hmul, hmod, hz, h0, appO, hlen]; rfl, ?_⟩
          refine ⟨_, ps ++ [(s, z)], .d (.t (.str s)) true, .d (.t (.int z)) true, by simp [prT]; rfl, ?_, ?_⟩
          · rw [List.take_add_one, hs, List.map_append]
            exact List.Sublist.append h1 (List.Sublist.refl _)
          · intro p hp
            rcases List.mem_append.mp hp with hp | hp
            · exact h2 p hp
            · simp at hp; subst hp; exact ⟨h0, by omega, by omega⟩) ⟨c, [], .un, .un, rfl, by simp, by simp⟩
  rw [List.length_map, List.take_length] at hs
  have hso := sorted_strs N hN
  have hm1 : ((m * 48271 + 11) % 2147483647 / 7 % 19 - 9).natAbs ≤ 9 := by omega
  exact ⟨_, ps, ⟨hs, hm1, hp⟩, by simp [hso, e, smT]⟩

/-! ### ends and plain statements of a script -/
def EndOk (N : List Str) (W M : Int) (k : EK) (n : Int) (ps : Prs) : Prop := SumOk N W n ps ∧ ∀ h, k = .goes h → 1 ≤ h ∧ h ≤ M
theorem end_by_ex (c : Int) (N : List Str) (W M : Int) (hN : N.length < 64) (hW : 0 < W) (hW2 : W < 1000) (hM : 0 < M) : ∃ k n ps, EndOk N W M k n ps ∧ m_law_end_by [.t (.int c), .lst (N.map T.str), .t (.int W), .t (.int M)] = .ok (.t (F.e k n ps).enc) := by
  obtain ⟨n, ps, h1, h2⟩ := sum_by_ex (c / 12) N W hN hW hW2
  have hmod : ∀ i, modD (.t (.int i)) (.t (.int M)) = .ok (.t (.int (i % M))) := fun i => mod_ii _ _ hM
  have q1 := Int.emod_nonneg (c / 4) (show M ≠ 0 by omega)
  have q2 := Int.emod_lt_of_pos (c / 4) hM
  unfold m_law_end_by g_law_end_by
  rw [runDef_Rt]
  by_cases c3 : c % 4 = 3
  · exact ⟨.nought, n, ps, ⟨h1, fun h e => by cases e⟩, by simp [h2, c3, F.enc]⟩
  · by_cases c2 : c % 4 = 2
    · exact ⟨.goes (1 + c / 4 % M), n, ps, ⟨h1, fun h e => by cases e; omega⟩, by simp [h2, c2, hmod, F.enc]⟩
    · exact ⟨.above, n, ps, ⟨h1, fun h e => by cases e⟩, by simp [h2, c3, c2, F.enc]⟩
/-- a plain statement of ends of the names N; i ends more than one -/
structure PlOk (N : List Str) (W M : Int) (i : Nat) (f : F) : Prop where
  all : f.all (EndOk N W M)
  dep : f.dep ≤ 1 + 4 * i
  sz : f.sz ≤ N.length * (1 + 20 * i)
  plain : f.plain = true
  wid : f.wid ≤ 21
  cnt : f.cnt ≤ 1 + 20 * i
  nod : f.nod ≤ 1 + 4 * i
theorem end_sz {N : List Str} {W M : Int} {k : EK} {n : Int} {ps : Prs} (h : EndOk N W M k n ps) : ps.length ≤ N.length := by
  have := h.1.1.length_le
  rwa [List.length_map, (srtS_perm N).length_eq] at this
theorem szs_rep (f : F) : ∀ m : Nat, F.szs (List.replicate m f) = m * f.sz
  | 0 => by simp [F.szs]
  | m + 1 => by rw [List.replicate_succ]; simp only [F.szs, szs_rep f m]; rw [Nat.succ_mul]; omega
theorem cnts_rep (f : F) : ∀ m : Nat, F.cnts (List.replicate m f) = m * f.cnt
  | 0 => by simp [F.cnts]
  | m + 1 => by rw [List.replicate_succ]; simp only [F.cnts, cnts_rep f m]; rw [Nat.succ_mul]; omega
theorem nods_rep (f : F) : ∀ m : Nat, F.nods (List.replicate m f) = m * f.nod
  | 0 => by simp [F.nods]
  | m + 1 => by rw [List.replicate_succ]; simp only [F.nods, nods_rep f m]; rw [Nat.succ_mul]; omega
theorem deps_rep (f : F) : ∀ m : Nat, F.deps (List.replicate m f) ≤ f.dep
  | 0 => by simp [F.deps]
  | m + 1 => by rw [List.replicate_succ]; exact Nat.max_le.mpr ⟨Nat.le_refl _, deps_rep f m⟩
theorem wids_rep (f : F) : ∀ m : Nat, F.wids (List.replicate m f) ≤ f.wid
  | 0 => by simp [F.wids]
  | m + 1 => by rw [List.replicate_succ]; exact Nat.max_le.mpr ⟨Nat.le_refl _, wids_rep f m⟩
theorem alls_rep {P : EK → Int → Prs → Prop} {f : F} (h : f.all P) : ∀ m : Nat, F.alls P (List.replicate m f)
  | 0 => trivial
  | m + 1 => by rw [List.replicate_succ]; exact ⟨h, alls_rep h m⟩
theorem plains_rep {f : F} (h : f.plain = true) : ∀ m : Nat, F.plains (List.replicate m f) = true
  | 0 => rfl
  | m + 1 => by rw [List.replicate_succ]; simp [F.plains, h, plains_rep h m]
theorem flat_rep (x : T) : ∀ m : Nat, (List.replicate m [x]).flatten = List.replicate m x
  | 0 => rfl
  | m + 1 => by rw [List.replicate_succ, List.flatten_cons, flat_rep x m]; rfl
theorem mul_t1 (x : T) (m : Nat) (h : 1 ≤ m) (h2 : m ≤ 1000) : mulD (.t (.tup [x])) (.t (.int m)) = .ok (.t (.tup (List.replicate m x))) := by
  simp only [mulD]
  rw [if_pos ⟨by simp, by simp, by omega, by omega⟩, Int.toNat_natCast, flat_rep]
@[simp] theorem add_tt (xs ys : List T) (h : xs.length + ys.length ≤ 16777216) : addD (.t (.tup xs)) (.t (.tup ys)) = .ok (.t (.tup (xs ++ ys))) := by
  simp only [addD, if_pos h]
@[simp] theorem rng2_1 (n : Nat) (h : n < 1000) : rng2 [.t (.int 1), .t (.int n)] = .ok (1, n - 1) := by
  simp only [rng2]
  rw [if_pos ⟨by decide, by omega⟩]
  congr 2
  omega
end Pf

set_option Elab.async false
set_option linter.all false
set_option maxRecDepth 100000
set_option maxHeartbeats 4000000
namespace Pf
open PySem L2
@[simp] theorem bw_t : bw true = "and" := id rfl
@[simp] theorem bw_f : bw false = "or" := id rfl
@[simp] theorem qw_t : qw true = "some" := id rfl
@[simp] theorem qw_f : qw false = "all" := id rfl
@[simp] theorem em_t (xs : List T) : smT 0 [] = .tup [.int 0, .tup []] := id rfl
theorem plain_step {ns : List Int} {a : Nat} {n : Nat} {N : List Str} {o : Bool} {W M b : Int} {k8 k9 k10 k11 : Sl} {f : F} {j : Nat} (hN : N.length < 64) (hW : 0 < W) (hW2 : W < 1000) (hM : 0 < M) (i : Nat) (hj : j = 1 + i) (h : PlOk N W M i f) :
    ∃ (f' : F) (l8 l9 l10 l11 : Sl), (seqO (setO 9 (b2 addD (ap m_law_cell_at (cA (rdE 0) (cA (b2 addD (rdE 1) (rdE 8)) nA))) (b2 mulD (kI 104729) (rdE 8))))
    (seqO (setO 10 (ap m_law_end_by (cA (b2 divD (rdE 9) (kI 9)) (cA (rdE 3) (cA (rdE 4) (cA (rdE 5) nA))))))
    (seqO (setO 11 (b2 modD (rdE 9) (kI 9)))
    (seqO (ifO (tV (b2 ltD (rdE 11) (kI 2))) (setO 7 (ap mkTup (cA (b2 ixD (ap mkLst (cA (kS "and") (cA (kS "or") nA))) (rdE 11)) (cA (ap mkTup (cA (rdE 7) (cA (rdE 10) nA))) nA)))) nxO)
    (seqO (ifO (tV (b2 eqD (rdE 11) (kI 2))) (setO 7 (ap mkTup (cA (kS "or") (cA (ap mkTup (cA (ap mkTup (cA (kS "not") (cA (rdE 7) nA))) (cA (rdE 10) nA))) nA)))) nxO)
    (seqO (ifO (tV (b2 eqD (rdE 11) (kI 3))) (setO 7 (ap mkTup (cA (kS "not") (cA (ap mkTup (cA (kS "and") (cA (ap mkTup (cA (rdE 10) (cA (rdE 7) (cA (ap mkTup (cA (kS "and") (cA (ap mkTup nA) nA))) nA)))) nA))) nA)))) nxO)
    (seqO (ifO (tV (b2 eqD (rdE 11) (kI 4))) (setO 7 (ap mkTup (cA (kS "and") (cA (ap mkTup (cA (ap mkTup (cA (kS "or") (cA (ap mkTup (cA (rdE 10) (cA (rdE 7) nA))) nA))) (cA (ap mkTup (cA (kS "not") (cA (rdE 10) nA))) nA))) nA)))) nxO)
    (seqO (ifO (tV (b2 eqD (rdE 11) (kI 5))) (setO 7 (ap mkTup (cA (kS "or") (cA (ap mkTup (cA (rdE 10) (cA (ap mkTup (cA (kS "or") (cA (ap mkTup nA) nA))) (cA (rdE 7) nA)))) nA)))) nxO)
    (seqO (ifO (tV (b2 eqD (rdE 11) (kI 6))) (setO 7 (ap mkTup (cA (kS "and") (cA (ap mkTup (cA (ap mkTup (cA (kS "not") (cA (ap mkTup (cA (kS "not") (cA (rdE 7) nA))) nA))) (cA (ap mkTup (cA (kS "not") (cA (rdE 10) nA))) nA))) nA)))) nxO)
    (seqO (ifO (tV (b2 eqD (rdE 11) (kI 7))) (setO 7 (ap mkTup (cA (kS "and") (cA (ap mkTup (cA (ap mkTup (cA (kS "or") (cA (ap mkTup (cA (rdE 7) nA)) nA))) (cA (ap mkTup (cA (kS "or") (cA (ap mkTup (cA (ap mkTup (cA (kS "and") (cA (ap mkTup (cA (rdE 10) nA)) nA))) nA)) nA))) nA))) nA)))) nxO)
    (ifO (tV (b2 eqD (rdE 11) (kI 8))) (setO 7 (ap mkTup (cA (b2 ixD (ap mkLst (cA (kS "and") (cA (kS "or") nA))) (b2 modD (b2 divD (rdE 9) (kI 9)) (kI 2))) (cA (b2 addD (ap mkTup (cA (rdE 10) (cA (rdE 10) (cA (rdE 7) nA)))) (b2 mulD (ap mkTup (cA (rdE 10) nA)) (b2 addD (kI 1) (b2 modD (b2 divD (rdE 9) (kI 18)) (kI 18))))) nA)))) nxO))))))))))) [.d (.scr ns) false, .d (.t (.int a)) false, .d (.t (.int n)) false, .d (.lst (N.map T.str)) o, .d (.t (.int W)) false, .d (.t (.int M)) false, .d (.t (.int b)) true, .d (.t (F.enc f)) true, .d (.t (.int j)) true, k9, k10, k11] = .ok (.nx [.d (.scr ns) false, .d (.t (.int a)) false, .d (.t (.int n)) false, .d (.lst (N.map T.str)) o, .d (.t (.int W)) false, .d (.t (.int M)) false, .d (.t (.int b)) true, .d (.t (F.enc f')) true, l8, l9, l10, l11]) ∧ PlOk N W M (i + 1) f' := by
  obtain ⟨ha, hd, hs, hp, hw, hcn, hnd⟩ := h
  have hc : m_law_cell_at [.scr ns, .t (.int ((a : Int) + (j : Int)))] = .ok (.t (.int (cell ns (a + j)))) := cell_at (k := a + j)
  generalize hz : cell ns (a + j) + 104729 * (j : Int) = z
  obtain ⟨k, x, ps, he, hq⟩ := end_by_ex (z / 9) N W M hN hW hW2 hM
  have hes := end_sz he
  have hsz : N.length * (1 + 20 * (i + 1)) = N.length * (1 + 20 * i) + 20 * N.length := by
    have e : 1 + 20 * (i + 1) = (1 + 20 * i) + 20 := by omega
    rw [e, Nat.mul_add, Nat.mul_comm _ 20]
  have hzw : z % 9 = 0 ∨ z % 9 = 1 ∨ z % 9 = 2 ∨ z % 9 = 3 ∨ z % 9 = 4 ∨ z % 9 = 5 ∨ z % 9 = 6 ∨ z % 9 = 7 ∨ z % 9 = 8 := by omega
  rcases hzw with q | q | q | q | q | q | q | q | q
  · refine ⟨.nd true [f, .e k x ps], .d (.t (.int j)) true, .d (.t (.int z)) true, .d (.t (F.enc (.e k x ps))) true, .d (.t (.int 0)) true, ?_, ?_⟩
    · simp [hc, hz, hq, q, F.enc, F.encs]
    · refine ⟨?_, ?_, ?_, ?_, ?_, by simp only [F.cnt, F.cnts]; omega, by simp only [F.nod, F.nods]; omega⟩
      · simp [F.all, F.alls, ha, he]
      · simp only [F.dep, F.deps]; omega
      · simp only [F.sz, F.szs]; omega
      · simp [F.plain, F.plains, hp]
      · simp only [F.wid, F.wids, List.length_cons, List.length_nil]; omega
  · refine ⟨.nd false [f, .e k x ps], .d (.t (.int j)) true, .d (.t (.int z)) true, .d (.t (F.enc (.e k x ps))) true, .d (.t (.int 1)) true, ?_, ?_⟩
    · simp [hc, hz, hq, q, F.enc, F.encs]
    · refine ⟨?_, ?_, ?_, ?_, ?_, by simp only [F.cnt, F.cnts]; omega, by simp only [F.nod, F.nods]; omega⟩
      · simp [F.all, F.alls, ha, he]
      · simp only [F.dep, F.deps]; omega
      · simp only [F.sz, F.szs]; omega
      · simp [F.plain, F.plains, hp]
      · simp only [F.wid, F.wids, List.length_cons, List.length_nil]; omega
  · refine ⟨.nd false [.nt f, .e k x ps], .d (.t (.int j)) true, .d (.t (.int z)) true, .d (.t (F.enc (.e k x ps))) true, .d (.t (.int 2)) true, ?_, ?_⟩
    · simp [hc, hz, hq, q, F.enc, F.encs]
    · refine ⟨?_, ?_, ?_, ?_, ?_, by simp only [F.cnt, F.cnts]; omega, by simp only [F.nod, F.nods]; omega⟩
      · simp [F.all, F.alls, ha, he]
      · simp only [F.dep, F.deps]; omega
      · simp only [F.sz, F.szs]; omega
      · simp [F.plain, F.plains, hp]
      · simp only [F.wid, F.wids, List.length_cons, List.length_nil]; omega
  · refine ⟨.nt (.nd true [.e k x ps, f, .nd true []]), .d (.t (.int j)) true, .d (.t (.int z)) true, .d (.t (F.enc (.e k x ps))) true, .d (.t (.int 3)) true, ?_, ?_⟩
    · simp [hc, hz, hq, q, F.enc, F.encs]
    · refine ⟨?_, ?_, ?_, ?_, ?_, by simp only [F.cnt, F.cnts]; omega, by simp only [F.nod, F.nods]; omega⟩
      · simp [F.all, F.alls, ha, he]
      · simp only [F.dep, F.deps]; omega
      · simp only [F.sz, F.szs]; omega
      · simp [F.plain, F.plains, hp]
      · simp only [F.wid, F.wids, List.length_cons, List.length_nil]; omega
  · refine ⟨.nd true [.nd false [.e k x ps, f], .nt (.e k x ps)], .d (.t (.int j)) true, .d (.t (.int z)) true, .d (.t (F.enc (.e k x ps))) true, .d (.t (.int 4)) true, ?_, ?_⟩
    · simp [hc, hz, hq, q, F.enc, F.encs]
    · refine ⟨?_, ?_, ?_, ?_, ?_, by simp only [F.cnt, F.cnts]; omega, by simp only [F.nod, F.nods]; omega⟩
      · simp [F.all, F.alls, ha, he]
      · simp only [F.dep, F.deps]; omega
      · simp only [F.sz, F.szs]; omega
      · simp [F.plain, F.plains, hp]
      · simp only [F.wid, F.wids, List.length_cons, List.length_nil]; omega
  · refine ⟨.nd false [.e k x ps, .nd false [], f], .d (.t (.int j)) true, .d (.t (.int z)) true, .d (.t (F.enc (.e k x ps))) true, .d (.t (.int 5)) true, ?_, ?_⟩
    · simp [hc, hz, hq, q, F.enc, F.encs]
    · refine ⟨?_, ?_, ?_, ?_, ?_, by simp only [F.cnt, F.cnts]; omega, by simp only [F.nod, F.nods]; omega⟩
      · simp [F.all, F.alls, ha, he]
      · simp only [F.dep, F.deps]; omega
      · simp only [F.sz, F.szs]; omega
      · simp [F.plain, F.plains, hp]
      · simp only [F.wid, F.wids, List.length_cons, List.length_nil]; omega
  · refine ⟨.nd true [.nt (.nt f), .nt (.e k x ps)], .d (.t (.int j)) true, .d (.t (.int z)) true, .d (.t (F.enc (.e k x ps))) true, .d (.t (.int 6)) true, ?_, ?_⟩
    · simp [hc, hz, hq, q, F.enc, F.encs]
    · refine ⟨?_, ?_, ?_, ?_, ?_, by simp only [F.cnt, F.cnts]; omega, by simp only [F.nod, F.nods]; omega⟩
      · simp [F.all, F.alls, ha, he]
      · simp only [F.dep, F.deps]; omega
      · simp only [F.sz, F.szs]; omega
      · simp [F.plain, F.plains, hp]
      · simp only [F.wid, F.wids, List.length_cons, List.length_nil]; omega
  · refine ⟨.nd true [.nd false [f], .nd false [.nd true [.e k x ps]]], .d (.t (.int j)) true, .d (.t (.int z)) true, .d (.t (F.enc (.e k x ps))) true, .d (.t (.int 7)) true, ?_, ?_⟩
    · simp [hc, hz, hq, q, F.enc, F.encs]
    · refine ⟨?_, ?_, ?_, ?_, ?_, by simp only [F.cnt, F.cnts]; omega, by simp only [F.nod, F.nods]; omega⟩
      · simp [F.all, F.alls, ha, he]
      · simp only [F.dep, F.deps]; omega
      · simp only [F.sz, F.szs]; omega
      · simp [F.plain, F.plains, hp]
      · simp only [F.wid, F.wids, List.length_cons, List.length_nil]; omega
  · obtain ⟨m, hm, hm1, hm18⟩ : ∃ m : Nat, 1 + z / 18 % 18 = m ∧ 1 ≤ m ∧ m ≤ 18 := ⟨(1 + z / 18 % 18).toNat, by omega, by omega, by omega⟩
    have hr := mul_t1 (F.enc (.e k x ps)) m hm1 (by omega)
    have fin : ∀ c : Bool, PlOk N W M (i + 1) (.nd c (.e k x ps :: .e k x ps :: f :: List.replicate m (.e k x ps))) := fun c => by
      refine ⟨?_, ?_, ?_, ?_, ?_, by simp only [F.cnt, F.cnts, cnts_rep]; omega, by simp only [F.nod, F.nods, nods_rep]; omega⟩
      · simp only [F.all, F.alls]; exact ⟨he, he, ha, alls_rep (f := .e k x ps) (by simpa only [F.all] using he) m⟩
      · have := deps_rep (.e k x ps) m
        simp only [F.dep, F.deps] at this ⊢; omega
      · simp only [F.sz, F.szs, szs_rep]
        have : m * ps.length ≤ 18 * N.length := Nat.mul_le_mul hm18 hes
        omega
      · simp [F.plain, F.plains, hp, plains_rep (f := .e k x ps) rfl m]
      · have := wids_rep (.e k x ps) m
        simp only [F.wid, F.wids, List.length_cons, List.length_replicate] at this ⊢; omega
    have henc : F.encs (List.replicate m (.e k x ps)) = List.replicate m (F.enc (.e k x ps)) := by rw [encs_map, List.map_replicate]
    have h2 : z / 9 % 2 = 0 ∨ z / 9 % 2 = 1 := by omega
    rcases h2 with h2 | h2
    · refine ⟨_, .d (.t (.int j)) true, .d (.t (.int z)) true, .d (.t (F.enc (.e k x ps))) true, .d (.t (.int 8)) true, ?_, fin true⟩
      simp [hc, hz, hq, q, F.enc, F.encs, hm, hr, h2, henc, show m + 1 + 1 + 1 ≤ 16777216 by omega, show 1 + 1 + 1 + m ≤ 16777216 by omega]
    · refine ⟨_, .d (.t (.int j)) true, .d (.t (.int z)) true, .d (.t (F.enc (.e k x ps))) true, .d (.t (.int 8)) true, ?_, fin false⟩
      simp [hc, hz, hq, q, F.enc, F.encs, hm, hr, h2, henc, show m + 1 + 1 + 1 ≤ 16777216 by omega, show 1 + 1 + 1 + m ≤ 16777216 by omega]

mutual
theorem all_mono {P Q : EK → Int → Prs → Prop} (h : ∀ k n ps, P k n ps → Q k n ps) : ∀ f : F, f.all P → f.all Q
  | .e k n ps, q => by simp only [F.all] at q ⊢; exact h k n ps q
  | .nt f, q => by simp only [F.all] at q ⊢; exact all_mono h f q
  | .nd _ fs, q => by simp only [F.all] at q ⊢; exact alls_mono h fs q
  | .qn _ _ f, q => by simp only [F.all] at q ⊢; exact all_mono h f q
theorem alls_mono {P Q : EK → Int → Prs → Prop} (h : ∀ k n ps, P k n ps → Q k n ps) : ∀ fs : List F, F.alls P fs → F.alls Q fs
  | [], _ => by simp only [F.alls]
  | f :: fs, q => by simp only [F.alls] at q ⊢; exact ⟨all_mono h f q.1, alls_mono h fs q.2⟩
end
theorem PlOk.names {N : List Str} {W M : Int} {i : Nat} {f : F} (h : PlOk [] W M i f) : PlOk N W M i f := by
  obtain ⟨h1, h2, h3, h4, h5, h6, h7⟩ := h
  refine ⟨all_mono (fun k n ps q => ?_) f h1, h2, ?_, h4, h5, h6, h7⟩
  · obtain ⟨⟨q1, q2, q3⟩, q4⟩ := q
    exact ⟨⟨q1.trans (List.nil_sublist _), q2, q3⟩, q4⟩
  · rw [List.length_nil, Nat.zero_mul] at h3; omega
theorem plain_by_ex (ns : List Int) (a : Nat) (n : Nat) (N : List Str) (W M : Int) (hn : 1 ≤ n) (hn2 : n < 1000) (hN : N.length < 64) (hW : 0 < W) (hW2 : W < 1000) (hM : 0 < M) :
    ∃ f, PlOk N W M (n - 1) f ∧ m_law_plain_by [.scr ns, .t (.int a), .t (.int n), .lst (N.map T.str), .t (.int W), .t (.int M)] = .ok (.t f.enc) := by
  unfold m_law_plain_by g_law_plain_by
  rw [runDef_Rt]
  have hc : m_law_cell_at [.scr ns, .t (.int (a : Int))] = .ok (.t (.int (cell ns a))) := cell_at (k := a)
  generalize hb : cell ns a = b at hc
  by_cases c0 : b % 26 = 25
  · refine ⟨.nd true [], ⟨?_, ?_, ?_, rfl, ?_, by simp [F.cnt, F.cnts], by simp [F.nod, F.nods]⟩, by simp [hc, c0, F.enc, F.encs]⟩
    · simp [F.all, F.alls]
    · simp [F.dep, F.deps]
    · simp [F.sz, F.szs]
    · simp [F.wid, F.wids]
  have key : ∀ (N : List Str) (o : Bool), N.length < 64 → ∃ f, PlOk N W M (n - 1) f ∧ ∃ (g : F) (k8 k9 k10 k11 : Sl), m_law_end_by [.t (.int b), .lst (N.map T.str), .t (.int W), .t (.int M)] = .ok (.t g.enc) ∧
      forR 8 (seqO (setO 9 (b2 addD (ap m_law_cell_at (cA (rdE 0) (cA (b2 addD (rdE 1) (rdE 8)) nA))) (b2 mulD (kI 104729) (rdE 8))))
    (seqO (setO 10 (ap m_law_end_by (cA (b2 divD (rdE 9) (kI 9)) (cA (rdE 3) (cA (rdE 4) (cA (rdE 5) nA))))))
    (seqO (setO 11 (b2 modD (rdE 9) (kI 9)))
    (seqO (ifO (tV (b2 ltD (rdE 11) (kI 2))) (setO 7 (ap mkTup (cA (b2 ixD (ap mkLst (cA (kS "and") (cA (kS "or") nA))) (rdE 11)) (cA (ap mkTup (cA (rdE 7) (cA (rdE 10) nA))) nA)))) nxO)
    (seqO (ifO (tV (b2 eqD (rdE 11) (kI 2))) (setO 7 (ap mkTup (cA (kS "or") (cA (ap mkTup (cA (ap mkTup (cA (kS "not") (cA (rdE 7) nA))) (cA (rdE 10) nA))) nA)))) nxO)
    (seqO (ifO (tV (b2 eqD (rdE 11) (kI 3))) (setO 7 (ap mkTup (cA (kS "not") (cA (ap mkTup (cA (kS "and") (cA (ap mkTup (cA (rdE 10) (cA (rdE 7) (cA (ap mkTup (cA (kS "and") (cA (ap mkTup nA) nA))) nA)))) nA))) nA)))) nxO)
    (seqO (ifO (tV (b2 eqD (rdE 11) (kI 4))) (setO 7 (ap mkTup (cA (kS "and") (cA (ap mkTup (cA (ap mkTup (cA (kS "or") (cA (ap mkTup (cA (rdE 10) (cA (rdE 7) nA))) nA))) (cA (ap mkTup (cA (kS "not") (cA (rdE 10) nA))) nA))) nA)))) nxO)
    (seqO (ifO (tV (b2 eqD (rdE 11) (kI 5))) (setO 7 (ap mkTup (cA (kS "or") (cA (ap mkTup (cA (rdE 10) (cA (ap mkTup (cA (kS "or") (cA (ap mkTup nA) nA))) (cA (rdE 7) nA)))) nA)))) nxO)
    (seqO (ifO (tV (b2 eqD (rdE 11) (kI 6))) (setO 7 (ap mkTup (cA (kS "and") (cA (ap mkTup (cA (ap mkTup (cA (kS "not") (cA (ap mkTup (cA (kS "not") (cA (rdE 7) nA))) nA))) (cA (ap mkTup (cA (kS "not") (cA (rdE 10) nA))) nA))) nA)))) nxO)
    (seqO (ifO (tV (b2 eqD (rdE 11) (kI 7))) (setO 7 (ap mkTup (cA (kS "and") (cA (ap mkTup (cA (ap mkTup (cA (kS "or") (cA (ap mkTup (cA (rdE 7) nA)) nA))) (cA (ap mkTup (cA (kS "or") (cA (ap mkTup (cA (ap mkTup (cA (kS "and") (cA (ap mkTup (cA (rdE 10) nA)) nA))) nA)) nA))) nA))) nA)))) nxO)
    (ifO (tV (b2 eqD (rdE 11) (kI 8))) (setO 7 (ap mkTup (cA (b2 ixD (ap mkLst (cA (kS "and") (cA (kS "or") nA))) (b2 modD (b2 divD (rdE 9) (kI 9)) (kI 2))) (cA (b2 addD (ap mkTup (cA (rdE 10) (cA (rdE 10) (cA (rdE 7) nA)))) (b2 mulD (ap mkTup (cA (rdE 10) nA)) (b2 addD (kI 1) (b2 modD (b2 divD (rdE 9) (kI 18)) (kI 18))))) nA)))) nxO))))))))))) (rngT 1 (n - 1)) [.d (.scr ns) false, .d (.t (.int a)) false, .d (.t (.int n)) false, .d (.lst (N.map T.str)) o, .d (.t (.int W)) false, .d (.t (.int M)) false, .d (.t (.int b)) true, .d (.t g.enc) true, .un, .un, .un, .un] = .ok (.nx [.d (.scr ns) false, .d (.t (.int a)) false, .d (.t (.int n)) false, .d (.lst (N.map T.str)) o, .d (.t (.int W)) false, .d (.t (.int M)) false, .d (.t (.int b)) true, .d (.t f.enc) true, k8, k9, k10, k11]) := by
    intro N o hN
    obtain ⟨k, x, ps, he, hq⟩ := end_by_ex b N W M hN hW hW2 hM
    have h0 : PlOk N W M 0 (.e k x ps) := by
      have := end_sz he
      refine ⟨by simpa only [F.all] using he, ?_, ?_, rfl, ?_, by simp [F.cnt], by simp [F.nod]⟩
      · simp [F.dep]
      · simp [F.sz]; exact this
      · simp [F.wid]
    obtain ⟨ρ', e, f, k8, k9, k10, k11, rfl, hf⟩ := forR_rng (j := 8) (lo := 1) (n := n - 1) (body := (seqO (setO 9 (b2 addD (ap m_law_cell_at (cA (rdE 0) (cA (b2 addD (rdE 1) (rdE 8)) nA))) (b2 mulD (kI 104729) (rdE 8))))
    (seqO (setO 10 (ap m_law_end_by (cA (b2 divD (rdE 9) (kI 9)) (cA (rdE 3) (cA (rdE 4) (cA (rdE 5) nA))))))
    (seqO (setO 11 (b2 modD (rdE 9) (kI 9)))
    (seqO (ifO (tV (b2 ltD (rdE 11) (kI 2))) (setO 7 (ap mkTup (cA (b2 ixD (ap mkLst (cA (kS "and") (cA (kS "or") nA))) (rdE 11)) (cA (ap mkTup (cA (rdE 7) (cA (rdE 10) nA))) nA)))) nxO)
    (seqO (ifO (tV (b2 eqD (rdE 11) (kI 2))) (setO 7 (ap mkTup (cA (kS "or") (cA (ap mkTup (cA (ap mkTup (cA (kS "not") (cA (rdE 7) nA))) (cA (rdE 10) nA))) nA)))) nxO)
    (seqO (ifO (tV (b2 eqD (rdE 11) (kI 3))) (setO 7 (ap mkTup (cA (kS "not") (cA (ap mkTup (cA (kS "and") (cA (ap mkTup (cA (rdE 10) (cA (rdE 7) (cA (ap mkTup (cA (kS "and") (cA (ap mkTup nA) nA))) nA)))) nA))) nA)))) nxO)
    (seqO (ifO (tV (b2 eqD (rdE 11) (kI 4))) (setO 7 (ap mkTup (cA (kS "and") (cA (ap mkTup (cA (ap mkTup (cA (kS "or") (cA (ap mkTup (cA (rdE 10) (cA (rdE 7) nA))) nA))) (cA (ap mkTup (cA (kS "not") (cA (rdE 10) nA))) nA))) nA)))) nxO)
    (seqO (ifO (tV (b2 eqD (rdE 11) (kI 5))) (setO 7 (ap mkTup (cA (kS "or") (cA (ap mkTup (cA (rdE 10) (cA (ap mkTup (cA (kS "or") (cA (ap mkTup nA) nA))) (cA (rdE 7) nA)))) nA)))) nxO)
    (seqO (ifO (tV (b2 eqD (rdE 11) (kI 6))) (setO 7 (ap mkTup (cA (kS "and") (cA (ap mkTup (cA (ap mkTup (cA (kS "not") (cA (ap mkTup (cA (kS "not") (cA (rdE 7) nA))) nA))) (cA (ap mkTup (cA (kS "not") (cA (rdE 10) nA))) nA))) nA)))) nxO)
    (seqO (ifO (tV (b2 eqD (rdE 11) (kI 7))) (setO 7 (ap mkTup (cA (kS "and") (cA (ap mkTup (cA (ap mkTup (cA (kS "or") (cA (ap mkTup (cA (rdE 7) nA)) nA))) (cA (ap mkTup (cA (kS "or") (cA (ap mkTup (cA (ap mkTup (cA (kS "and") (cA (ap mkTup (cA (rdE 10) nA)) nA))) nA)) nA))) nA))) nA)))) nxO)
    (ifO (tV (b2 eqD (rdE 11) (kI 8))) (setO 7 (ap mkTup (cA (b2 ixD (ap mkLst (cA (kS "and") (cA (kS "or") nA))) (b2 modD (b2 divD (rdE 9) (kI 9)) (kI 2))) (cA (b2 addD (ap mkTup (cA (rdE 10) (cA (rdE 10) (cA (rdE 7) nA)))) (b2 mulD (ap mkTup (cA (rdE 10) nA)) (b2 addD (kI 1) (b2 modD (b2 divD (rdE 9) (kI 18)) (kI 18))))) nA)))) nxO))))))))))))
      (ρ := [.d (.scr ns) false, .d (.t (.int a)) false, .d (.t (.int n)) false, .d (.lst (N.map T.str)) o, .d (.t (.int W)) false, .d (.t (.int M)) false, .d (.t (.int b)) true, .d (.t (F.e k x ps).enc) true, .un, .un, .un, .un])
      (fun i ρ => ∃ (f : F) (k8 k9 k10 k11 : Sl), ρ = [.d (.scr ns) false, .d (.t (.int a)) false, .d (.t (.int n)) false, .d (.lst (N.map T.str)) o, .d (.t (.int W)) false, .d (.t (.int M)) false, .d (.t (.int b)) true, .d (.t f.enc) true, k8, k9, k10, k11] ∧ PlOk N W M i f)
      (fun i ρ hi ⟨f, k8, k9, k10, k11, e, hf⟩ => by
        subst e
        obtain ⟨f', l8, l9, l10, l11, h1, h2⟩ := plain_step (ns := ns) (a := a) (n := n) (o := o) (b := b) (k8 := k8) (k9 := k9) (k10 := k10) (k11 := k11) (j := 1 + i) hN hW hW2 hM i rfl hf
        refine ⟨_, ?_, f', l8, l9, l10, l11, rfl, h2⟩
        have ei : (1 : Int) + ((i : Nat) : Int) = ((1 + i : Nat) : Int) := by omega
        rw [ei]
        exact h1) ⟨_, .un, .un, .un, .un, rfl, h0⟩
    exact ⟨f, hf, _, k8, k9, k10, k11, hq, e⟩
  by_cases c1 : b % 13 = 12
  · obtain ⟨f, h1, g, k8, k9, k10, k11, h2, h3⟩ := key [] true (by simp)
    exact ⟨f, h1.names, by simp only [List.map_nil] at h2 h3; simp [hc, c0, c1, h2, h3, hn2, retN]⟩
  · obtain ⟨f, h1, g, k8, k9, k10, k11, h2, h3⟩ := key N false hN
    exact ⟨f, h1, by simp [hc, c0, c1, h2, h3, hn2, retN]⟩
end Pf

set_option Elab.async false
set_option linter.all false
set_option maxRecDepth 100000
set_option maxHeartbeats 4000000
namespace Pf
open PySem L2
/-! ## names that stand free -/
theorem bound_by_ex (c : Int) (f : F) (N : List Str) (h4 : N.length = 4) : ∃ g : F, m_law_bound_by [.t (.int c), .t f.enc, .lst (N.map T.str)] = .ok (.t g.enc) ∧ g.dep ≤ f.dep + 5 ∧ g.sz ≤ 2 * f.sz ∧ (∀ P, f.all P → g.all P) ∧ g.plain = false ∧ g.wid ≤ max 2 f.wid := by
  have hix : ixD (.lst (N.map T.str)) (.t (.int (c / 2 % 4))) = .ok (.t (.str (N[(c / 2 % 4).toNat]'(by omega)))) := by
    rw [ix_l, atI_pos _ (by omega), List.getElem?_map, List.getElem?_eq_getElem (by omega)]
    rfl
  generalize hx : N[(c / 2 % 4).toNat]'(by omega) = x at hix
  have hq : ∃ b : Bool, ixD (.lst [.str "some", .str "all"]) (.t (.int (c % 2))) = .ok (.t (.str (qw b))) := by
    have h2 : c % 2 = 0 ∨ c % 2 = 1 := by omega
    rcases h2 with h | h
    · exact ⟨true, by simp [h]⟩
    · exact ⟨false, by simp [h]⟩
  obtain ⟨b, hb⟩ := hq
  unfold m_law_bound_by g_law_bound_by
  rw [runDef_Rt]
  have h4 : c / 8 % 4 = 0 ∨ c / 8 % 4 = 1 ∨ c / 8 % 4 = 2 ∨ c / 8 % 4 = 3 := by omega
  rcases h4 with h | h | h | h
  · refine ⟨.qn b x f, by simp [hix, hb, h, F.enc, retN], ?_, ?_, ?_, ?_, ?_⟩
    · simp only [F.dep]; omega
    · simp only [F.sz]; omega
    · intro P q; simpa only [F.all] using q
    · rfl
    · simp only [F.wid]; omega
  · refine ⟨.nt (.qn b x f), by simp [hix, hb, h, F.enc], ?_, ?_, ?_, ?_, ?_⟩
    · simp only [F.dep]; omega
    · simp only [F.sz]; omega
    · intro P q; simpa only [F.all] using q
    · rfl
    · simp only [F.wid]; omega
  · refine ⟨.nd true [f, .qn b x f], by simp [hix, hb, h, F.enc, F.encs], ?_, ?_, ?_, ?_, ?_⟩
    · simp only [F.dep, F.deps]; omega
    · simp only [F.sz, F.szs]; omega
    · intro P q; simp only [F.all, F.alls]; exact ⟨q, q, trivial⟩
    · simp [F.plain, F.plains]
    · simp only [F.wid, F.wids, List.length_cons, List.length_nil]; omega
  · refine ⟨.nd false [.nd true [], .nt (.nd false [.qn b x f, f])], by simp [hix, hb, h, F.enc, F.encs], ?_, ?_, ?_, ?_, ?_⟩
    · simp only [F.dep, F.deps]; omega
    · simp only [F.sz, F.szs]; omega
    · intro P q; simp only [F.all, F.alls]; exact ⟨trivial, ⟨q, q, trivial⟩, trivial⟩
    · simp [F.plain, F.plains]
    · simp only [F.wid, F.wids, List.length_cons, List.length_nil]; omega
mutual
def F.free : F → List Str → List Str
  | .e _ _ ps, bs => (ps.filter fun p => !decide (p.1 ∈ bs)).map (·.1)
  | .nt f, bs => f.free bs
  | .nd _ fs, bs => F.frees fs bs
  | .qn _ x f, bs => f.free (bs ++ [x])
def F.frees : List F → List Str → List Str
  | [], _ => []
  | f :: fs, bs => f.free bs ++ F.frees fs bs
end
mutual
/-- .. as the law goes along them -/
def F.lfree : F → List Str → List Str
  | .e _ _ ps, bs => (ps.filter fun p => !decide (p.1 ∈ bs)).map (·.1)
  | .nt f, bs => f.lfree bs
  | .nd _ fs, bs => F.lfrees fs bs []
  | .qn _ x f, bs => f.lfree (bs ++ [x])
def F.lfrees : List F → List Str → List Str → List Str
  | [], _, acc => acc
  | f :: fs, bs, acc => F.lfrees fs bs (acc ++ (f.lfree bs).filter fun s => !decide (s ∈ acc))
end
mutual
theorem free_len : ∀ (f : F) (bs : List Str), (f.free bs).length ≤ f.sz
  | .e _ _ ps, bs => by simp only [F.free, F.sz, List.length_map]; exact List.length_filter_le _ _
  | .nt f, bs => by simp only [F.free, F.sz]; exact free_len f bs
  | .nd _ fs, bs => by simp only [F.free, F.sz]; exact frees_len fs bs
  | .qn _ x f, bs => by simp only [F.free, F.sz]; exact free_len f _
theorem frees_len : ∀ (fs : List F) (bs : List Str), (F.frees fs bs).length ≤ F.szs fs
  | [], bs => by simp [F.frees]
  | f :: fs, bs => by simp only [F.frees, F.szs, List.length_append]; exact Nat.add_le_add (free_len f bs) (frees_len fs bs)
end
mutual
theorem lfree_len : ∀ (f : F) (bs : List Str), (f.lfree bs).length ≤ f.sz
  | .e _ _ ps, bs => by simp only [F.lfree, F.sz, List.length_map]; exact List.length_filter_le _ _
  | .nt f, bs => by simp only [F.lfree, F.sz]; exact lfree_len f bs
  | .nd _ fs, bs => by
    simp only [F.lfree, F.sz]
    have := lfrees_len fs bs []
    simpa using this
  | .qn _ x f, bs => by simp only [F.lfree, F.sz]; exact lfree_len f _
theorem lfrees_len : ∀ (fs : List F) (bs acc : List Str), (F.lfrees fs bs acc).length ≤ acc.length + F.szs fs
  | [], bs, acc => by simp [F.lfrees]
  | f :: fs, bs, acc => by
    simp only [F.lfrees, F.szs]
    have h1 := lfrees_len fs bs (acc ++ (f.lfree bs).filter fun s => !decide (s ∈ acc))
    have h2 := lfree_len f bs
    have h3 := List.length_filter_le (fun s => !decide (s ∈ acc)) (f.lfree bs)
    rw [List.length_append] at h1
    omega
end
mutual
theorem lfree_mem (s : Str) : ∀ (f : F) (bs : List Str), s ∈ f.lfree bs ↔ s ∈ f.free bs
  | .e _ _ ps, bs => by simp only [F.lfree, F.free]
  | .nt f, bs => by simp only [F.lfree, F.free]; exact lfree_mem s f bs
  | .nd _ fs, bs => by
    simp only [F.lfree, F.free]
    rw [lfrees_mem s fs bs []]; simp
  | .qn _ x f, bs => by simp only [F.lfree, F.free]; exact lfree_mem s f _
theorem lfrees_mem (s : Str) : ∀ (fs : List F) (bs acc : List Str), s ∈ F.lfrees fs bs acc ↔ s ∈ acc ∨ s ∈ F.frees fs bs
  | [], bs, acc => by simp [F.lfrees, F.frees]
  | f :: fs, bs, acc => by
    simp only [F.lfrees, F.frees]
    rw [lfrees_mem s fs bs, List.mem_append, List.mem_append, List.mem_filter, lfree_mem s f bs]
    by_cases h : s ∈ acc <;> simp [h]
end
mutual
theorem free_sub : ∀ (f : F) (bs : List Str) (N : List Str), f.all (fun _ _ ps => ∀ p ∈ ps, p.1 ∈ N) → ∀ s ∈ f.free bs, s ∈ N
  | .e _ _ ps, bs, N, h, s, q => by
    simp only [F.free, F.all] at h q
    obtain ⟨p, hp, rfl⟩ := List.mem_map.mp q
    exact h p (List.mem_filter.mp hp).1
  | .nt f, bs, N, h, s, q => by simp only [F.free, F.all] at h q; exact free_sub f bs N h s q
  | .nd _ fs, bs, N, h, s, q => by simp only [F.free, F.all] at h q; exact frees_sub fs bs N h s q
  | .qn _ x f, bs, N, h, s, q => by simp only [F.free, F.all] at h q; exact free_sub f _ N h s q
theorem frees_sub : ∀ (fs : List F) (bs : List Str) (N : List Str), F.alls (fun _ _ ps => ∀ p ∈ ps, p.1 ∈ N) fs → ∀ s ∈ F.frees fs bs, s ∈ N
  | [], bs, N, h, s, q => by simp [F.frees] at q
  | f :: fs, bs, N, h, s, q => by
    simp only [F.frees, F.alls] at h q
    rcases List.mem_append.mp q with q | q
    · exact free_sub f bs N h.1 s q
    · exact frees_sub fs bs N h.2 s q
end
theorem flat_strs : ∀ bs : List Str, (bs.map T.str).all flatT = true
  | [] => rfl
  | b :: bs => by simp [flatT]
theorem any_strs (s : Str) : ∀ bs : List Str, (bs.map T.str).any (fun y => eqvT y (.str s)) = decide (s ∈ bs)
  | [] => by simp
  | b :: bs => by
    rw [List.map_cons, List.any_cons, any_strs s bs]
    by_cases h : b = s
    · subst h; simp [eqvT]
    · have h' : ¬ s = b := fun e => h e.symm
      simp [eqvT, h, h']
@[simp] theorem nin_strs (s : Str) (bs : List Str) : ninD (.t (.str s)) (.lst (bs.map T.str)) = .ok (.t (.bl (!decide (s ∈ bs)))) := by
  have h : inB (.t (.str s)) (.lst (bs.map T.str)) = some (decide (s ∈ bs)) := by
    simp only [inB, flat_strs, any_strs, flatT, Bool.and_self, if_true]
  simp only [ninD, h]
@[simp] theorem add_strs (a b : List Str) (h : a.length + b.length ≤ 16777216) : addD (.lst (a.map T.str)) (.lst (b.map T.str)) = .ok (.lst ((a ++ b).map T.str)) := by
  simp only [addD, List.length_map, if_pos h, List.map_append]
@[simp] theorem add_strs1 (a : List Str) (b : Str) (h : a.length < 16777216) : addD (.lst (a.map T.str)) (.lst [.str b]) = .ok (.lst ((a ++ [b]).map T.str)) := by
  have := add_strs a [b] (by simp only [List.length_cons, List.length_nil]; omega)
  simpa using this
@[simp] theorem back2 {α : Type} (a b : α) : atI [a, b] (-1) = some b := id rfl
@[simp] theorem back3 {α : Type} (a b c : α) : atI [a, b, c] (-1) = some c := id rfl
theorem end_free (ps : Prs) (bs : List Str) (a b d e : Sl) (o : Bool) (r : Ev) :
    lcR 5 (tV (b2 ninD (b2 ixD (rdE 5) (kI 0)) (rdE 1))) (b2 ixD (rdE 5) (kI 0)) (a :: .d (.lst (bs.map T.str)) o :: b :: d :: e :: .un :: r) (ps.map prT) = .ok ((ps.filter fun p => !decide (p.1 ∈ bs)).map (T.str ∘ fun x => x.1)) :=
  lcR_map (j := 5) prT (fun p => !decide (p.1 ∈ bs)) (T.str ∘ fun x => x.1) ps (fun p hp => ⟨by simp [prT], fun _ => by simp [prT]⟩)
theorem free_in_eq : ∀ (n : Nat) (f : F) (bs : List Str), f.dep ≤ n → f.sz ≤ 16777216 → bs.length + f.dep ≤ 1000 → m_free_in n [.t f.enc, .lst (bs.map T.str)] = .ok (.lst ((f.free bs).map T.str))
  | 0, f, bs, h, _, _ => by cases f <;> simp [F.dep] at h
  | n + 1, f, bs, h, hz, hb => by
    unfold m_free_in g_free_in
    rw [runDef_Rt]
    cases f with
    | e k x ps =>
      simp only [F.sz] at hz
      cases k <;> simp [F.enc, F.free, smT, hz, end_free]
    | nt f =>
      simp only [F.dep, F.sz] at h hz hb
      have := free_in_eq n f bs (by omega) hz (by omega)
      simp [F.enc, F.free, this]
    | qn b x f =>
      simp only [F.dep, F.sz] at h hz hb
      have := free_in_eq n f (bs ++ [x]) (by omega) hz (by simp only [List.length_append, List.length_cons, List.length_nil]; omega)
      have hl : bs.length < 16777216 := by omega
      simp only [List.map_append, List.map_cons, List.map_nil] at this
      cases b <;> simp [F.enc, F.free, this, hl]
    | nd b fs =>
      simp only [F.dep, F.sz] at h hz hb
      have key : ∀ (gs : List F) (acc : List Str) (s2 k4 : Sl), (∀ g ∈ gs, g ∈ fs) → acc.length + (F.frees gs bs).length ≤ 16777216 → ∃ k', forR 4 (extO 3 (ap (m_free_in n) (cA (rdE 4) (cA (rdE 1) nA)))) (F.encs gs) [.d (.t (F.enc (.nd b fs))) false, .d (.lst (bs.map T.str)) false, s2, .d (.lst (acc.map T.str)) true, k4, .un] = .ok (.nx [.d (.t (F.enc (.nd b fs))) false, .d (.lst (bs.map T.str)) false, s2, .d (.lst ((acc ++ F.frees gs bs).map T.str)) true, k', .un]) := by
        intro gs
        induction gs with
        | nil => intro acc s2 k4 _ _; exact ⟨k4, by simp [F.encs, F.frees]⟩
        | cons g gs ih =>
          intro acc s2 k4 hm hl
          have hg := hm g (by simp)
          have h1 := deps_mem hg
          have h2 := szs_mem hg
          have hr := free_in_eq n g bs (by omega) (by omega) (by omega)
          simp only [F.frees, List.length_append] at hl
          obtain ⟨k', e⟩ := ih (acc ++ g.free bs) s2 (.d (.t g.enc) true) (fun x hx => hm x (List.mem_cons_of_mem _ hx)) (by rw [List.length_append]; omega)
          have h3 : acc.length + (g.free bs).length ≤ 16777216 := by omega
          refine ⟨k', ?_⟩
          simp only [F.encs, F.frees, forR, List.set_cons_succ, List.set_cons_zero, extO, ap, cA, nA, rdE_0, rdE_s, R.ok_bind, hr, List.getElem?_cons_succ, List.getElem?_cons_zero, List.length_map, if_pos h3, ← List.map_append, e, List.append_assoc]
      have hl := frees_len fs bs
      have h4 := key fs [] (.d (.t (.str (bw b))) true) .un (fun g hg => hg) (by rw [List.length_nil]; omega)
      obtain ⟨k', e⟩ := h4
      simp only [F.enc, List.map_nil, List.nil_append] at e
      cases b <;> simp [F.enc, F.free, retN] at e ⊢ <;> simp [e]
theorem lfree_eq : ∀ (n : Nat) (f : F) (bs : List Str), f.dep ≤ n → f.sz ≤ 16777216 → bs.length + f.dep ≤ 1000 → m_law_free n [.t f.enc, .lst (bs.map T.str)] = .ok (.lst ((f.lfree bs).map T.str))
  | 0, f, bs, h, _, _ => by cases f <;> simp [F.dep] at h
  | n + 1, f, bs, h, hz, hb => by
    unfold m_law_free g_law_free
    rw [runDef_Rt]
    cases f with
    | e k x ps =>
      simp only [F.sz] at hz
      cases k <;> simp [F.enc, F.lfree, smT, hz, end_free]
    | nt f =>
      simp only [F.dep, F.sz] at h hz hb
      have := lfree_eq n f bs (by omega) hz (by omega)
      simp [F.enc, F.lfree, this]
    | qn b x f =>
      simp only [F.dep, F.sz] at h hz hb
      have := lfree_eq n f (bs ++ [x]) (by omega) hz (by simp only [List.length_append, List.length_cons, List.length_nil]; omega)
      have hl : bs.length < 16777216 := by omega
      simp only [List.map_append, List.map_cons, List.map_nil] at this
      cases b <;> simp [F.enc, F.lfree, this, hl]
    | nd b fs =>
      simp only [F.dep, F.sz] at h hz hb
      have key : ∀ (gs : List F) (acc : List Str) (s2 k4 : Sl), (∀ g ∈ gs, g ∈ fs) → acc.length + F.szs gs ≤ 16777216 → ∃ k', forR 4 (setO 3 (b2 addD (rdE 3) (lcN 6 (ap (m_law_free n) (cA (rdE 4) (cA (rdE 1) nA))) selL (tV (b2 ninD (rdE 6) (rdE 3))) (rdT 6)))) (F.encs gs) [.d (.t (F.enc (.nd b fs))) false, .d (.lst (bs.map T.str)) false, s2, .d (.lst (acc.map T.str)) true, k4, .un, .un] = .ok (.nx [.d (.t (F.enc (.nd b fs))) false, .d (.lst (bs.map T.str)) false, s2, .d (.lst ((F.lfrees gs bs acc).map T.str)) true, k', .un, .un]) := by
        intro gs
        induction gs with
        | nil => intro acc s2 k4 _ _; exact ⟨k4, by simp [F.encs, F.lfrees]⟩
        | cons g gs ih =>
          intro acc s2 k4 hm hl
          have hg := hm g (by simp)
          have h1 := deps_mem hg
          have h2 := szs_mem hg
          have hr := lfree_eq n g bs (by omega) (by omega) (by omega)
          have h5 := lfree_len g bs
          have h6 := List.length_filter_le (fun s => !decide (s ∈ acc)) (g.lfree bs)
          simp only [F.szs] at hl
          obtain ⟨k', e⟩ := ih (acc ++ (g.lfree bs).filter fun s => !decide (s ∈ acc)) s2 (.d (.t g.enc) true) (fun x hx => hm x (List.mem_cons_of_mem _ hx)) (by rw [List.length_append]; omega)
          have h3 : acc.length + ((g.lfree bs).filter fun s => !decide (s ∈ acc)).length ≤ 16777216 := by omega
          have hlc : lcR 6 (tV (b2 ninD (rdE 6) (rdE 3))) (rdT 6) [.d (.t (F.enc (.nd b fs))) false, .d (.lst (bs.map T.str)) false, s2, .d (.lst (acc.map T.str)) true, .d (.t g.enc) true, .un, .un] ((g.lfree bs).map T.str) = .ok (((g.lfree bs).filter fun s => !decide (s ∈ acc)).map T.str) := by
            refine lcR_map T.str _ _ _ fun s hs => ?_
            exact ⟨by simp, fun _ => by simp⟩
          refine ⟨k', ?_⟩
          simp only [F.encs, F.lfrees, forR, List.set_cons_succ, List.set_cons_zero, setO, b2, lcN, ap, cA, nA, rdE_0, rdE_s, R.ok_bind, hr, selL_l, List.length_map, if_pos (show (g.lfree bs).length ≤ 16777216 by omega), hlc, NR_ok, add_strs _ _ h3, e]
      have h4 := key fs [] (.d (.t (.str (bw b))) true) .un (fun g hg => hg) (by rw [List.length_nil]; omega)
      obtain ⟨k', e⟩ := h4
      simp only [F.enc, List.map_nil] at e
      cases b <;> simp [F.enc, F.lfree, retN, -lcN_eq] at e ⊢ <;> simp [e, -lcN_eq]
end Pf

set_option Elab.async false
set_option linter.all false
set_option maxRecDepth 100000
set_option maxHeartbeats 4000000
namespace Pf
open PySem L2
/-! ## what sums come to -/
def sv (f : Str → Int) : Prs → Int
  | [] => 0
  | p :: r => p.2 * f p.1 + sv f r
theorem sv_app (f : Str → Int) (a b : Prs) : sv f (a ++ b) = sv f a + sv f b := by
  induction a with
  | nil => simp [sv]
  | cons p r ih => simp only [List.cons_append, sv, ih]; omega
theorem sv_scale (f : Str → Int) (k : Int) (ps : Prs) : sv f (ps.map fun p => (p.1, k * p.2)) = k * sv f ps := by
  induction ps with
  | nil => simp [sv]
  | cons p r ih => simp only [List.map_cons, sv, ih, Int.mul_add, Int.mul_assoc]
theorem sv_without (f : Str → Int) (s : Str) (ps : Prs) : sv f (ps.filter fun p => !decide (p.1 = s)) = sv f ps - tot s ps * f s := by
  induction ps with
  | nil => simp [sv, tot]
  | cons p r ih =>
    by_cases h : p.1 = s
    · subst h
      have e : sv f (p :: r) = p.2 * f p.1 + sv f r := rfl
      have e2 : tot p.1 (p :: r) = p.2 + tot p.1 r := by simp [tot]
      rw [List.filter_cons_of_neg (by simp), ih, e, e2, Int.add_mul]; omega
    · have e : sv f (p :: r) = p.2 * f p.1 + sv f r := rfl
      have e2 : tot s (p :: r) = tot s r := by simp [tot, h]
      rw [List.filter_cons_of_pos (by simp [h]), e, e2]
      show p.2 * f p.1 + sv f _ = _
      rw [ih]; omega
def sgm (g : Str → Int) : List Str → Int
  | [] => 0
  | s :: r => g s + sgm g r
theorem sgm_one (g : Str → Int) (x : Str) : ∀ N : List Str, N.Nodup → x ∈ N → sgm (fun s => if x = s then g s else 0) N = g x := by
  have hz : ∀ N : List Str, x ∉ N → sgm (fun s => if x = s then g s else 0) N = 0 := by
    intro N
    induction N with
    | nil => intro _; rfl
    | cons y r ih =>
      intro h
      have h1 : ¬ x = y := fun e => h (by simp [e])
      simp only [sgm, if_neg h1, ih (fun q => h (List.mem_cons_of_mem _ q))]; rfl
  intro N
  induction N with
  | nil => intro _ h; simp at h
  | cons y r ih =>
    intro hd hm
    obtain ⟨h1, h2⟩ := List.nodup_cons.mp hd
    by_cases e : x = y
    · subst e
      simp only [sgm, if_true, hz r h1]; omega
    · rcases List.mem_cons.mp hm with q | q
      · exact absurd q e
      · simp only [sgm, if_neg e, ih h2 q]; omega
theorem sgm_add (g h : Str → Int) : ∀ N, sgm (fun s => g s + h s) N = sgm g N + sgm h N
  | [] => rfl
  | s :: r => by simp only [sgm, sgm_add g h r]; omega
theorem sgm_tot (f : Str → Int) (N : List Str) (hd : N.Nodup) : ∀ ps : Prs, (∀ p ∈ ps, p.1 ∈ N) → sgm (fun s => tot s ps * f s) N = sv f ps
  | [], _ => by
    have e : (fun s => tot s [] * f s) = fun _ => (0 : Int) := by funext s; simp [tot]
    have this : ∀ N : List Str, sgm (fun _ => (0 : Int)) N = 0 := fun N => by
      induction N with
      | nil => rfl
      | cons x r ih => simp only [sgm, ih]; rfl
    rw [e]
    rw [this]; rfl
  | p :: r, h => by
    have ih := sgm_tot f N hd r fun q hq => h q (List.mem_cons_of_mem _ hq)
    have h1 := sgm_one (fun s => p.2 * f s) p.1 N hd (h p (by simp))
    have e : (fun s => tot s (p :: r) * f s) = fun s => (if p.1 = s then p.2 * f s else 0) + tot s r * f s := by
      funext s
      by_cases q : p.1 = s
      · simp only [tot, if_pos q, Int.add_mul]
      · simp only [tot, if_neg q, Int.zero_add]
    rw [e, sgm_add, h1, ih]; rfl
theorem sv_filter (f : Str → Int) (g : Str → Int) : ∀ L : List Str, sv f ((L.filter fun s => decide (g s ≠ 0)).map fun s => (s, g s)) = sgm (fun s => g s * f s) L
  | [] => rfl
  | x :: r => by
    by_cases h : g x = 0
    · rw [List.filter_cons_of_neg (by simp [h]), sv_filter f g r]; simp [sgm, h]
    · rw [List.filter_cons_of_pos (by simp [h])]
      show g x * f x + sv f _ = _
      rw [sv_filter f g r]; rfl
theorem sv_norm (f : Str → Int) (ps : Prs) : sv f (norm ps) = sv f ps := by
  have hd : (srtS (onceS (ps.map (·.1)))).Nodup := (srtS_perm _).nodup_iff.mpr (onceS_nodup _)
  unfold norm
  rw [sv_filter f (fun s => tot s ps), sgm_tot f _ hd ps fun p hp => by
    rw [(srtS_perm _).mem_iff, onceS_mem]; exact List.mem_map_of_mem hp]
/-! ### the program's sums -/
theorem added_eq (n m : Int) (ps qs : Prs) (h : ps.length + qs.length < 64) : m_added [.t (smT n ps), .t (smT m qs)] = .ok (.t (smT (n + m) (norm (ps ++ qs)))) := by
  have e := made_eq (n + m) (ps ++ qs) (by rw [List.length_append]; exact h)
  rw [List.map_append] at e
  have ha : addD (.lst (ps.map prT)) (.lst (qs.map prT)) = .ok (.lst (ps.map prT ++ qs.map prT)) := by
    simp only [addD, List.length_map]; rw [if_pos (by omega)]
  unfold m_added g_added
  rw [runDef_Rt]
  have hs : ∀ k (rs : Prs), smT k rs = .tup [.int k, .tup (rs.map prT)] := fun _ _ => rfl
  rw [hs n ps, hs m qs]
  simp [ha, e]
theorem times_eq (k n : Int) (ps : Prs) (h : ps.length < 64) (h0 : mulOk k n = true) (hm : ∀ p ∈ ps, mulOk k p.2 = true) : m_times [.t (.int k), .t (smT n ps)] = .ok (.t (smT (k * n) (norm (ps.map fun p => (p.1, k * p.2))))) := by
  have e := made_eq (k * n) (ps.map fun p => (p.1, k * p.2)) (by rw [List.length_map]; exact h)
  have hl : ∀ ρ : Ev, rdE 0 ρ = .ok (.t (.int k)) → 2 < ρ.length → (∀ x, rdE 0 (ρ.set 2 x) = .ok (.t (.int k))) → (∀ x o, rdE 2 (ρ.set 2 (.d x o)) = .ok x) → lcR 2 yes (ap mkTup (cA (b2 ixD (rdE 2) (kI 0)) (cA (b2 mulD (rdE 0) (b2 ixD (rdE 2) (kI 1))) nA))) ρ (ps.map prT) = .ok ((ps.map fun p => (p.1, k * p.2)).map prT) := by
    intro ρ _ _ h3 h4
    have := lcR_map (j := 2) (c := yes) (el := ap mkTup (cA (b2 ixD (rdE 2) (kI 0)) (cA (b2 mulD (rdE 0) (b2 ixD (rdE 2) (kI 1))) nA))) (ρ := ρ) prT (fun _ => true) (fun p => prT (p.1, k * p.2)) ps (fun p hp => ⟨rfl, fun _ => by
      have hq : mulD (.t (.int k)) (.t (.int p.2)) = .ok (.t (.int (k * p.2))) := by simp only [mulD, if_pos (hm p hp)]
      simp [h3, h4, prT, hq]⟩)
    have ef : ps.filter (fun _ => true) = ps := by simp
    rw [ef] at this
    rw [this, List.map_map]; rfl
  have hq : mulD (.t (.int k)) (.t (.int n)) = .ok (.t (.int (k * n))) := by simp only [mulD, if_pos h0]
  unfold m_times g_times
  rw [runDef_Rt]
  have hs : ∀ k (rs : Prs), smT k rs = .tup [.int k, .tup (rs.map prT)] := fun _ _ => rfl
  have hl' := hl [.d (.t (.int k)) false, .d (.t (smT n ps)) false, .un] rfl (by simp) (fun x => rfl) (fun x o => rfl)
  rw [hs n ps] at hl' ⊢
  simp [hq, hl', e, show ps.length ≤ 16777216 by omega, -List.map_map]
theorem without_eq (n : Int) (s : Str) (ps : Prs) (h : ps.length < 64) : m_without [.t (smT n ps), .t (.str s)] = .ok (.t (smT n (ps.filter fun p => !decide (p.1 = s)))) := by
  have hl := lcR_map (j := 2) (c := tV (b2 neD (b2 ixD (rdE 2) (kI 0)) (rdE 1))) (el := rdT 2) (ρ := [.d (.t (smT n ps)) false, .d (.t (.str s)) false, .un]) prT (fun p => !decide (p.1 = s)) prT ps (fun p hp => ⟨by simp [prT], fun _ => by simp [prT]⟩)
  unfold m_without g_without
  rw [runDef_Rt]
  have hs : ∀ k (rs : Prs), smT k rs = .tup [.int k, .tup (rs.map prT)] := fun _ _ => rfl
  rw [hs n ps] at hl ⊢
  simp [hl, show ps.length ≤ 16777216 by omega, smT]
theorem put_in_eq (n m : Int) (s : Str) (ps qs : Prs) (h : ps.length + qs.length < 60) (hq : (norm (qs.map fun p => (p.1, vl ps s * p.2))).length + ps.length < 64) (h0 : mulOk (vl ps s) m = true) (hm : ∀ p ∈ qs, mulOk (vl ps s) p.2 = true) :
    m_put_in [.t (smT n ps), .t (.str s), .t (smT m qs)] = .ok (.t (smT (n + vl ps s * m) (norm ((ps.filter fun p => !decide (p.1 = s)) ++ norm (qs.map fun p => (p.1, vl ps s * p.2)))))) := by
  have h1 := without_eq n s ps (by omega)
  have h2 := share_eq n s ps
  have h3 := times_eq (vl ps s) m qs (by omega) h0 hm
  have h4 := added_eq n (vl ps s * m) (ps.filter fun p => !decide (p.1 = s)) (norm (qs.map fun p => (p.1, vl ps s * p.2))) (by
    have := List.length_filter_le (fun p : Str × Int => !decide (p.1 = s)) ps
    omega)
  unfold m_put_in g_put_in
  rw [runDef_Rt]
  simp [h1, h2, h3, h4]
/-! ### a sum's number -/
theorem lvalue_eq (n : Int) (ps : Prs) (kvs : Prs) (hk : ∀ p ∈ ps, p.1 ∈ kvs.map (·.1)) (hm : ∀ p ∈ ps, mulOk p.2 (vl kvs p.1) = true) : m_law_value [.t (smT n ps), .dct kvs] = .ok (.t (.int (n + sv (vl kvs) ps))) := by
  have key : ∀ (qs : Prs) (t : Int) (k : Sl), (∀ p ∈ qs, p ∈ ps) → ∃ k', forR 3 (setO 2 (b2 addD (rdE 2) (b2 mulD (b2 ixD (rdE 3) (kI 1)) (b2 dgetD (rdE 1) (b2 ixD (rdE 3) (kI 0)))))) (qs.map prT) [.d (.t (smT n ps)) false, .d (.dct kvs) false, .d (.t (.int t)) true, k] = .ok (.nx [.d (.t (smT n ps)) false, .d (.dct kvs) false, .d (.t (.int (t + sv (vl kvs) qs))) true, k']) := by
    intro qs
    induction qs with
    | nil => intro t k _; exact ⟨k, by simp [sv]⟩
    | cons p r ih =>
      intro t k hs
      have hp := hs p (by simp)
      obtain ⟨k', e⟩ := ih (t + p.2 * vl kvs p.1) (.d (.t (prT p)) true) (fun q hq => hs q (List.mem_cons_of_mem _ hq))
      have hd := dget_vl (hk p hp)
      have hq : mulD (.t (.int p.2)) (.t (.int (vl kvs p.1))) = .ok (.t (.int (p.2 * vl kvs p.1))) := by simp only [mulD, if_pos (hm p hp)]
      refine ⟨k', ?_⟩
      have e3 : t + p.2 * vl kvs p.1 + sv (vl kvs) r = t + sv (vl kvs) (p :: r) := by simp only [sv]; omega
      rw [e3] at e
      have hp' : prT p = .tup [.str p.1, .int p.2] := rfl
      rw [hp'] at e
      simp [forR, prT, hd, hq, e]
  obtain ⟨k', e⟩ := key ps n .un (fun p hp => hp)
  unfold m_law_value g_law_value
  rw [runDef_Rt]
  have hs : ∀ k (rs : Prs), smT k rs = .tup [.int k, .tup (rs.map prT)] := fun _ _ => rfl
  rw [hs n ps] at e ⊢
  simp [e, retN]
@[simp] theorem nin_dct (kvs : Prs) (s : Str) : ninD (.t (.str s)) (.dct kvs) = .ok (.t (.bl (!decide (s ∈ kvs.map (·.1))))) := by
  have h : inB (.t (.str s)) (.dct kvs) = some (decide (s ∈ kvs.map (·.1))) := by
    simp only [inB]
    congr 1
    by_cases q : s ∈ kvs.map (·.1)
    · obtain ⟨p, e⟩ := getS_some q
      unfold getS at e
      simp [e, q]
    · have e := getS_none q
      unfold getS at e
      simp [e, q]
  simp only [ninD, h]
theorem value_eq (n : Int) (ps : Prs) (kvs : Prs) (hm : ∀ p ∈ ps, mulOk p.2 (vl kvs p.1) = true) : m_value [.t (smT n ps), .dct kvs] = if ∀ p ∈ ps, p.1 ∈ kvs.map (·.1) then .ok (.t (.int (n + sv (vl kvs) ps))) else .raise 0 := by
  have key : ∀ (qs : Prs) (t : Int) (k : Sl), (∀ p ∈ qs, p ∈ ps) → Rt (seqO (forR 3 (seqO (ifO (tV (b2 ninD (b2 ixD (rdE 3) (kI 0)) (rdE 1))) (raiseO 0) nxO) (setO 2 (b2 addD (rdE 2) (b2 mulD (b2 ixD (rdE 3) (kI 1)) (b2 dgetD (rdE 1) (b2 ixD (rdE 3) (kI 0))))))) (qs.map prT)) (retN 2) [.d (.t (smT n ps)) false, .d (.dct kvs) false, .d (.t (.int t)) true, k]) = if ∀ p ∈ qs, p.1 ∈ kvs.map (·.1) then .ok (.t (.int (t + sv (vl kvs) qs))) else .raise 0 := by
    intro qs
    induction qs with
    | nil => intro t k _; simp [sv, retN]
    | cons p r ih =>
      intro t k hs
      have hp := hs p (by simp)
      have ih' := ih (t + p.2 * vl kvs p.1) (.d (.t (prT p)) true) (fun q hq => hs q (List.mem_cons_of_mem _ hq))
      have e3 : t + p.2 * vl kvs p.1 + sv (vl kvs) r = t + sv (vl kvs) (p :: r) := by simp only [sv]; omega
      rw [e3] at ih'
      by_cases hk : p.1 ∈ kvs.map (·.1)
      · have hd := dget_vl hk
        have hq : mulD (.t (.int p.2)) (.t (.int (vl kvs p.1))) = .ok (.t (.int (p.2 * vl kvs p.1))) := by simp only [mulD, if_pos (hm p hp)]
        have hc : (∀ q ∈ p :: r, q.1 ∈ kvs.map (·.1)) ↔ ∀ q ∈ r, q.1 ∈ kvs.map (·.1) := ⟨fun h q hq => h q (List.mem_cons_of_mem _ hq), fun h q hq => (List.mem_cons.mp hq).elim (fun e => e ▸ hk) (h q)⟩
        simp only [hc]
        rw [← ih']
        simp only [List.map_cons, forR, List.set_cons_succ, List.set_cons_zero, seqO, ifO, tV, b2, kI, rdE_0, rdE_s, R.ok_bind, setO]
        simp [prT, hk, hd, hq, -List.mem_map]
      · have hc : ¬ ∀ q ∈ p :: r, q.1 ∈ kvs.map (·.1) := fun h => hk (h p (by simp))
        rw [if_neg hc]
        simp only [List.map_cons, forR, List.set_cons_succ, List.set_cons_zero, seqO, ifO, tV, b2, kI, rdE_0, rdE_s, R.ok_bind, setO]
        simp [prT, hk, Rt, -List.mem_map]
  have k0 := key ps n .un (fun p hp => hp)
  unfold m_value g_value
  rw [runDef_Rt]
  have hs : ∀ k (rs : Prs), smT k rs = .tup [.int k, .tup (rs.map prT)] := fun _ _ => rfl
  rw [hs n ps] at k0 ⊢
  rw [← k0]
  simp
@[simp] theorem le_ss (i j : Str) : leD (.t (.str i)) (.t (.str j)) = .ok (.t (.bl (leS i j))) := id rfl
/-- names rising, each once, of N; shares not nought -/
structure Rg (N : List Str) (ps : Prs) : Prop where
  sub : (ps.map (·.1)).Sublist (srtS N)
  ne : ∀ p ∈ ps, p.2 ≠ 0
theorem Rg.mem {N : List Str} {ps : Prs} (h : Rg N ps) : ∀ p ∈ ps, p.1 ∈ N := fun p hp => (srtS_perm N).mem_iff.mp (h.sub.subset (List.mem_map_of_mem hp))
theorem Rg.nodup {N : List Str} {ps : Prs} (h : Rg N ps) (hd : N.Nodup) : (ps.map (·.1)).Nodup := h.sub.nodup ((srtS_perm N).nodup_iff.mpr hd)
theorem Rg.rise {N : List Str} {ps : Prs} (h : Rg N ps) (hd : N.Nodup) : ps.Pairwise fun a b => leS b.1 a.1 = false := by
  have h1 : (ps.map (·.1)).Pairwise fun a b => leS a b = true := (srtS_pw N).sublist h.sub
  have h2 : (ps.map (·.1)).Pairwise fun a b => a ≠ b := h.nodup hd
  have h3 : (ps.map (·.1)).Pairwise fun a b => leS b a = false := (h1.and h2).imp fun {a b} q => by
    cases e : leS b a with
    | false => rfl
    | true => exact absurd (leS_antisymm q.1 e) q.2
  exact List.pairwise_map.mp h3
theorem sum_is_eq (n : Int) (N N' : List Str) (ps : Prs) (h : Rg N' ps) (hd : N'.Nodup) (hsub : ∀ s ∈ N', s ∈ N) (hne : ∀ s ∈ N, s.cps.toList ≠ []) : m_law_sum_is [.t (smT n ps), .lst (N.map T.str)] = .ok (.t (.bl true)) := by
  have key : ∀ (qs : Prs) (last : Str) (k : Sl), (∀ p ∈ qs, p ∈ ps) → (∀ p ∈ qs, leS p.1 last = false) → qs.Pairwise (fun a b => leS b.1 a.1 = false) → ∃ last' k', forR 3 (seqO (ifO (tOr2 (tNot1 (tV (u1 (isiD "tuple") (rdE 3)))) (tOr2 (tV (b2 neD (ap lenD (cA (rdE 3) nA)) (kI 2))) (tNot1 (tV (u1 (isiD "str") (b2 ixD (rdE 3) (kI 0))))))) (retO (kB false)) nxO)
    (seqO (ifO (tOr2 (tNot1 (tV (ap m_law_whole (cA (b2 ixD (rdE 3) (kI 1)) nA)))) (tOr2 (tV (b2 eqD (b2 ixD (rdE 3) (kI 1)) (kI 0))) (tOr2 (tV (b2 leD (b2 ixD (rdE 3) (kI 0)) (rdE 2))) (tV (b2 ninD (b2 ixD (rdE 3) (kI 0)) (rdE 1)))))) (retO (kB false)) nxO)
    (setO 2 (b2 ixD (rdE 3) (kI 0))))) (qs.map prT) [.d (.t (smT n ps)) false, .d (.lst (N.map T.str)) false, .d (.t (.str last)) true, k] = .ok (.nx [.d (.t (smT n ps)) false, .d (.lst (N.map T.str)) false, .d (.t (.str last')) true, k']) := by
    intro qs
    induction qs with
    | nil => intro last k _ _ _; exact ⟨last, k, rfl⟩
    | cons p r ih =>
      intro last k hs hl hr
      obtain ⟨r1, r2⟩ := List.pairwise_cons.mp hr
      have hp := hs p (by simp)
      have h0 := hl p (by simp)
      have h1 := h.ne p hp
      have h2 := hsub _ (h.mem p hp)
      obtain ⟨last', k', e⟩ := ih p.1 (.d (.t (prT p)) true) (fun q hq => hs q (List.mem_cons_of_mem _ hq)) (fun q hq => r1 q hq) r2
      refine ⟨last', k', ?_⟩
      have hp' : prT p = .tup [.str p.1, .int p.2] := rfl
      rw [hp'] at e
      simp [forR, prT, h0, h1, h2, e]
  obtain ⟨last', k', e⟩ := key ps "" .un (fun p hp => hp) (fun p hp => by
    have hn := hne _ (hsub _ (h.mem p hp))
    have e0 : (("" : Str)).cps.toList = [] := by decide +kernel
    unfold leS
    rw [e0]
    cases q : p.1.cps.toList with
    | nil => exact absurd q hn
    | cons x xs => simp) (h.rise hd)
  unfold m_law_sum_is g_law_sum_is
  rw [runDef_Rt]
  have hs : ∀ k (rs : Prs), smT k rs = .tup [.int k, .tup (rs.map prT)] := fun _ _ => rfl
  rw [hs n ps] at e ⊢
  simp [e]
theorem rg_norm {N : List Str} {ps : Prs} (hd : N.Nodup) (h : ∀ p ∈ ps, p.1 ∈ N) : Rg N (norm ps) := by
  rw [norm_over hd h]
  refine ⟨?_, fun p hp => ?_⟩
  · rw [List.map_map]
    have e : ((srtS N).filter fun s => decide (tot s ps ≠ 0)).map ((·.1) ∘ fun s => (s, tot s ps)) = (srtS N).filter fun s => decide (tot s ps ≠ 0) := by
      conv => rhs; rw [← List.map_id ((srtS N).filter fun s => decide (tot s ps ≠ 0))]
      rfl
    rw [e]
    exact List.filter_sublist
  · obtain ⟨s, hs, rfl⟩ := List.mem_map.mp hp
    simpa using (List.mem_filter.mp hs).2
theorem rg_filter {N : List Str} {ps : Prs} (f : Str × Int → Bool) (h : Rg N ps) : Rg N (ps.filter f) :=
  ⟨(List.filter_sublist.map _).trans h.sub, fun p hp => h.ne p (List.mem_filter.mp hp).1⟩
theorem rg_sum {N : List Str} {W n : Int} {ps : Prs} (h : SumOk N W n ps) : Rg N ps := ⟨h.1, fun p hp => (h.2.2 p hp).1⟩
theorem tot_bound (s : Str) (B : Nat) : ∀ ps : Prs, (∀ p ∈ ps, p.2.natAbs ≤ B) → (tot s ps).natAbs ≤ ps.length * B
  | [], _ => by simp [tot]
  | p :: r, h => by
    have h1 := h p (by simp)
    have ih := tot_bound s B r fun q hq => h q (List.mem_cons_of_mem _ hq)
    simp only [tot, List.length_cons, Nat.succ_mul]
    split <;> omega
theorem norm_bound (B : Nat) (ps : Prs) (h : ∀ p ∈ ps, p.2.natAbs ≤ B) : ∀ p ∈ norm ps, p.2.natAbs ≤ ps.length * B := by
  intro p hp
  unfold norm at hp
  obtain ⟨s, _, rfl⟩ := List.mem_map.mp hp
  exact tot_bound s B ps h
theorem tot_at {ps : Prs} (hd : (ps.map (·.1)).Nodup) {p : Str × Int} (hp : p ∈ ps) : tot p.1 ps = p.2 := by
  induction ps with
  | nil => simp at hp
  | cons q r ih =>
    rw [List.map_cons, List.nodup_cons] at hd
    have hz : ∀ s, ¬ s ∈ r.map (·.1) → tot s r = 0 := fun s hs => by
      by_cases e : tot s r = 0
      · exact e
      · exact absurd (tot_mem e) hs
    rcases List.mem_cons.mp hp with rfl | hp
    · simp [tot, hz _ hd.1]
    · have hne : ¬ q.1 = p.1 := fun e => hd.1 (e ▸ List.mem_map_of_mem hp)
      simp only [tot, if_neg hne, ih hd.2 hp]; omega
theorem sameMap_self {kvs : Prs} (hd : (kvs.map (·.1)).Nodup) : sameMap kvs kvs = true := by
  have h : ∀ p ∈ kvs, kvs.find? (fun q => decide (q.1 = p.1)) = some p := by
    induction kvs with
    | nil => intro p hp; simp at hp
    | cons q r ih =>
      rw [List.map_cons, List.nodup_cons] at hd
      intro p hp
      rcases List.mem_cons.mp hp with rfl | hp
      · simp
      · have hne : ¬ q.1 = p.1 := fun e => hd.1 (e ▸ List.mem_map_of_mem hp)
        rw [List.find?_cons_of_neg (by simpa using hne)]
        exact ih hd.2 p hp
  unfold sameMap
  simp only [decide_true, Bool.true_and, List.all_eq_true, decide_eq_true_eq]
  exact h
theorem vl_tot {ps : Prs} (hd : (ps.map (·.1)).Nodup) (s : Str) : vl ps s = tot s ps := by
  by_cases h : s ∈ ps.map (·.1)
  · obtain ⟨p, e⟩ := getS_some h
    have hp : p ∈ ps := List.mem_of_find?_eq_some e
    have hs : p.1 = s := by simpa using List.find?_some e
    have : vl ps s = p.2 := by unfold vl; rw [e]
    rw [this, ← tot_at hd hp, hs]
  · have : vl ps s = 0 := by unfold vl; rw [getS_none h]
    rw [this]
    by_cases e : tot s ps = 0
    · exact e.symm
    · exact absurd (tot_mem e) h
theorem drop_l (xs : List T) : slD (.lst xs) (some 1) none = .ok (.lst (xs.drop 1)) := by
  simp only [slD, cutT]
  rw [show (some (1 : Int)) = some ((1 : Nat) : Int) from rfl, HT.sIx_nat, HT.sIx_none]
  congr 2
  cases xs with
  | nil => rfl
  | cons x r => simp
theorem mul_ok_v {i j : Int} (h1 : i.natAbs ≤ 10 ^ 70) (h2 : j.natAbs < 10 ^ 70) : mulOk i j = true := by
  have h3 : (10 : Nat) ^ 70 < 2 ^ 300 := by decide
  exact mulOk_big (m := 300) (by decide) (by omega) (by omega)
theorem sv_bound (f : Str → Int) (B D : Nat) (hf : ∀ s, (f s).natAbs ≤ D) : ∀ ps : Prs, (∀ p ∈ ps, p.2.natAbs ≤ B) → (sv f ps).natAbs ≤ ps.length * (B * D)
  | [], _ => by simp [sv]
  | p :: r, h => by
    have h1 : (p.2 * f p.1).natAbs ≤ B * D := by rw [Int.natAbs_mul]; exact Nat.mul_le_mul (h p (by simp)) (hf p.1)
    have ih := sv_bound f B D hf r fun q hq => h q (List.mem_cons_of_mem _ hq)
    simp only [sv, List.length_cons, Nat.succ_mul]
    omega
@[simp] theorem ix_sm0 (n : Int) (ps : Prs) : ixD (.t (smT n ps)) (.t (.int 0)) = .ok (.t (.int n)) := id rfl
@[simp] theorem ix_sm1 (n : Int) (ps : Prs) : ixD (.t (smT n ps)) (.t (.int 1)) = .ok (.t (.tup (ps.map prT))) := id rfl
theorem ne_self {kvs : Prs} (hd : (kvs.map (·.1)).Nodup) : neD (.dct kvs) (.dct kvs) = .ok (.t (.bl false)) := by
  simp only [neD, eqB, sameMap_self hd, if_true]; rfl
theorem good_int (i : Int) : m_law_alike 100 [.t (.int i), .t (.int i)] = .ok (.t (.bl true)) := alike_self 100 (.int i) rfl
end Pf

set_option Elab.async false
set_option linter.all false
set_option maxRecDepth 100000
set_option maxHeartbeats 4000000
namespace Pf
open PySem L2
/-! ## plain statements; ends put anew -/
theorem is_plain_eq : ∀ (n : Nat) (f : F), f.dep ≤ n → m_is_plain n [.t f.enc] = .ok (.t (.bl f.plain))
  | 0, f, h => by cases f <;> simp [F.dep] at h
  | n + 1, f, h => by
    unfold m_is_plain g_is_plain
    rw [runDef_Rt]
    cases f with
    | e k x ps => cases k <;> simp [F.enc, F.plain]
    | nt f =>
      simp only [F.dep] at h
      have := is_plain_eq n f (by omega)
      simp [F.enc, F.plain, this]
    | qn b x f => cases b <;> simp [F.enc, F.plain]
    | nd b fs =>
      simp only [F.dep] at h
      have key : ∀ (gs : List F) (s1 k : Sl), (∀ g ∈ gs, g ∈ fs) → (F.plains gs = true → ∃ k', forR 2 (ifO (tNot1 (tV (ap (m_is_plain n) (cA (rdE 2) nA)))) (retO (kB false)) nxO) (F.encs gs) [.d (.t (F.enc (.nd b fs))) false, s1, k] = .ok (.nx [.d (.t (F.enc (.nd b fs))) false, s1, k'])) ∧
          (F.plains gs = false → forR 2 (ifO (tNot1 (tV (ap (m_is_plain n) (cA (rdE 2) nA)))) (retO (kB false)) nxO) (F.encs gs) [.d (.t (F.enc (.nd b fs))) false, s1, k] = .ok (.rt (.t (.bl false)))) := by
        intro gs
        induction gs with
        | nil => intro s1 k _; exact ⟨fun _ => ⟨k, by simp [F.encs]⟩, fun q => by simp [F.plains] at q⟩
        | cons g gs ih =>
          intro s1 k hm
          have h1 := deps_mem (hm g (by simp))
          have hr := is_plain_eq n g (by omega)
          obtain ⟨i1, i2⟩ := ih s1 (.d (.t g.enc) true) (fun x hx => hm x (List.mem_cons_of_mem _ hx))
          cases hg : g.plain with
          | false =>
            refine ⟨fun q => by simp [F.plains, hg] at q, fun _ => ?_⟩
            simp [F.encs, forR, hr, hg]
          | true =>
            refine ⟨fun q => ?_, fun q => ?_⟩
            · obtain ⟨k', e⟩ := i1 (by simpa [F.plains, hg] using q)
              exact ⟨k', by simp [F.encs, forR, hr, hg, e]⟩
            · have e := i2 (by simpa [F.plains, hg] using q)
              simp [F.encs, forR, hr, hg, e]
      obtain ⟨k1, k2⟩ := key fs (.d (.t (.str (bw b))) true) .un (fun g hg => hg)
      cases hp : F.plains fs with
      | true =>
        obtain ⟨k', e⟩ := k1 hp
        simp only [F.enc] at e
        cases b <;> simp [F.enc, F.plain, hp] at e ⊢ <;> simp [e]
      | false =>
        have e := k2 hp
        simp only [F.enc] at e
        cases b <;> simp [F.enc, F.plain, hp] at e ⊢ <;> simp [e]
theorem need_plain_eq (f : F) (h : f.dep ≤ 60) : m_need_plain [.t f.enc] = if f.plain then .ok (.t .non) else .raise 1 := by
  have := is_plain_eq 60 f h
  unfold m_need_plain g_need_plain
  rw [runDef_Rt]
  cases hp : f.plain <;> simp [this, hp, Rt]
mutual
def F.rep (g : Int → Prs → Int × Prs) : F → F
  | .e k n ps => .e k (g n ps).1 (g n ps).2
  | .nt f => .nt (f.rep g)
  | .nd b fs => .nd b (F.reps g fs)
  | .qn b x f => .qn b x (f.rep g)
def F.reps (g : Int → Prs → Int × Prs) : List F → List F
  | [] => []
  | f :: fs => f.rep g :: F.reps g fs
end
theorem reps_map (g : Int → Prs → Int × Prs) : ∀ fs : List F, F.reps g fs = fs.map (F.rep g)
  | [] => rfl
  | f :: fs => by simp [F.reps, reps_map g fs]
theorem alls_mem {P : EK → Int → Prs → Prop} {f : F} : ∀ {fs : List F}, F.alls P fs → f ∈ fs → f.all P
  | g :: fs, h, hm => by
    simp only [F.alls] at h
    rcases List.mem_cons.mp hm with rfl | hm
    · exact h.1
    · exact alls_mem h.2 hm
theorem plains_mem {f : F} : ∀ {fs : List F}, F.plains fs = true → f ∈ fs → f.plain = true
  | g :: fs, h, hm => by
    simp only [F.plains, Bool.and_eq_true] at h
    rcases List.mem_cons.mp hm with rfl | hm
    · exact h.1
    · exact plains_mem h.2 hm
theorem wids_mem {f : F} : ∀ {fs : List F}, f ∈ fs → f.wid ≤ F.wids fs
  | g :: fs, h => by
    rcases List.mem_cons.mp h with rfl | h
    · exact Nat.le_max_left _ _
    · exact Nat.le_trans (wids_mem h) (Nat.le_max_right _ _)
/-- a sum with another sum in the place of x -/
def pin (x : Str) (m : Int) (qs : Prs) (n : Int) (ps : Prs) : Int × Prs := (n + tot x ps * m, norm ((ps.filter fun p => !decide (p.1 = x)) ++ norm (qs.map fun p => (p.1, tot x ps * p.2))))
/-- what an end must be, so that a sum can be put in -/
def PinOk (m : Int) (qs : Prs) (_ : EK) (_ : Int) (ps : Prs) : Prop := (ps.map (·.1)).Nodup ∧ ps.length < 20 ∧ ∀ p ∈ ps, p.2.natAbs ≤ 1000
theorem norm_len (ps : Prs) : (norm ps).length ≤ ps.length := by
  unfold norm
  rw [List.length_map]
  refine Nat.le_trans (List.length_filter_le _ _) ?_
  rw [(srtS_perm _).length_eq]
  have : ∀ l : List Str, (onceS l).length ≤ l.length := by
    intro l
    induction l with
    | nil => simp [onceS]
    | cons x r ih => unfold onceS; split <;> simp <;> omega
  simpa using this (ps.map (·.1))
theorem pin_eq (x : Str) (m n : Int) (qs ps : Prs) (k : EK) (hq : qs.length < 20) (h : PinOk m qs k n ps) : m_put_in [.t (smT n ps), .t (.str x), .t (smT m qs)] = .ok (.t (smT (pin x m qs n ps).1 (pin x m qs n ps).2)) := by
  obtain ⟨h1, h2, h3⟩ := h
  have hv := vl_tot h1 x
  have hb : (tot x ps).natAbs ≤ 20 * 1000 := Nat.le_trans (tot_bound x 1000 ps h3) (Nat.mul_le_mul_right _ (by omega))
  have := put_in_eq n m x ps qs (by omega) (by
    have := norm_len (qs.map fun p => (p.1, vl ps x * p.2))
    rw [List.length_map] at this; omega) (mulOk_l (by omega) (by omega)) (fun p hp => mulOk_l (by omega) (by omega))
  rw [this, hv]; rfl
theorem replaced_eq (x : Str) (m : Int) (qs : Prs) (hq : qs.length < 20) : ∀ (n : Nat) (f : F), f.dep ≤ n → f.plain = true → f.wid ≤ 16777216 → f.all (PinOk m qs) → m_replaced n [.t f.enc, .t (.str x), .t (smT m qs)] = .ok (.t (f.rep (pin x m qs)).enc)
  | 0, f, h, _, _, _ => by cases f <;> simp [F.dep] at h
  | n + 1, f, h, hp, hw, ha => by
    unfold m_replaced g_replaced
    rw [runDef_Rt]
    cases f with
    | e k y ps =>
      simp only [F.all] at ha
      have e := pin_eq x m y qs ps k hq ha
      cases k <;> simp [F.enc, F.rep, e]
    | nt f =>
      simp only [F.dep, F.plain, F.wid, F.all] at h hp hw ha
      have := replaced_eq x m qs hq n f (by omega) hp hw ha
      simp [F.enc, F.rep, this]
    | qn b y f => simp [F.plain] at hp
    | nd b fs =>
      simp only [F.dep, F.plain, F.wid, F.all] at h hp hw ha
      have hl : ∀ ρ : Ev, (∀ z o, rdE 4 (ρ.set 4 (.d z o)) = .ok z) → (∀ z, rdE 1 (ρ.set 4 z) = .ok (.t (.str x))) → (∀ z, rdE 2 (ρ.set 4 z) = .ok (.t (smT m qs))) → lcR 4 yes (ap (m_replaced n) (cA (rdE 4) (cA (rdE 1) (cA (rdE 2) nA)))) ρ (F.encs fs) = .ok (F.encs (F.reps (pin x m qs) fs)) := by
        intro ρ h1 h2 h3
        rw [encs_map, encs_map, reps_map]
        have := lcR_map (j := 4) (c := yes) (el := ap (m_replaced n) (cA (rdE 4) (cA (rdE 1) (cA (rdE 2) nA)))) (ρ := ρ) F.enc (fun _ => true) (fun f => (f.rep (pin x m qs)).enc) fs (fun f hf => ⟨rfl, fun _ => by
          have hd := deps_mem hf
          have hw2 := wids_mem hf
          have := replaced_eq x m qs hq n f (by omega) (plains_mem hp hf) (by omega) (alls_mem ha hf)
          simp only [ap, cA, nA, h1, h2, h3, R.ok_bind, this]⟩)
        have ef : fs.filter (fun _ => true) = fs := by simp
        rw [ef] at this
        rw [this, List.map_map]; rfl
      have hl' := hl [.d (.t (F.enc (.nd b fs))) false, .d (.t (.str x)) false, .d (.t (smT m qs)) false, .d (.t (.str (bw b))) true, .un] (fun z o => rfl) (fun z => rfl) (fun z => rfl)
      have hlen : (F.encs fs).length ≤ 16777216 := by rw [encs_len]; omega
      simp only [F.enc] at hl'
      cases b <;> simp [F.enc, F.rep, hlen] at hl' ⊢ <;> simp [hl']
end Pf

set_option Elab.async false
set_option linter.all false
set_option maxRecDepth 100000
set_option maxHeartbeats 4000000
namespace Pf
open PySem L2
theorem tot_scale (s : Str) (k : Int) (ps : Prs) : tot s (ps.map fun p => (p.1, k * p.2)) = k * tot s ps := by
  induction ps with
  | nil => simp [tot]
  | cons p r ih =>
    simp only [List.map_cons, tot, ih, Int.mul_add]
    by_cases h : p.1 = s <;> simp [h]
theorem tot_without (s x : Str) (ps : Prs) : tot s (ps.filter fun p => !decide (p.1 = x)) = if s = x then 0 else tot s ps := by
  induction ps with
  | nil => simp [tot]
  | cons p r ih =>
    by_cases h : p.1 = x
    · rw [List.filter_cons_of_neg (by simp [h]), ih]
      by_cases e : s = x
      · simp [e]
      · have : ¬ p.1 = s := fun q => e (by rw [← q, h])
        simp [e, tot, this]
    · rw [List.filter_cons_of_pos (by simp [h])]
      simp only [tot, ih]
      by_cases e : s = x
      · have : ¬ p.1 = s := fun q => h (by rw [q, e])
        simp [e]; intro q; exact absurd q h
      · simp [e]
theorem norm_keys_nodup (ps : Prs) : ((norm ps).map (·.1)).Nodup := by
  unfold norm
  rw [List.map_map]
  have e : ((srtS (onceS (ps.map (·.1)))).filter fun s => decide (tot s ps ≠ 0)).map ((·.1) ∘ fun s => (s, tot s ps)) = (srtS (onceS (ps.map (·.1)))).filter fun s => decide (tot s ps ≠ 0) := by
    conv => rhs; rw [← List.map_id ((srtS (onceS (ps.map (·.1)))).filter fun s => decide (tot s ps ≠ 0))]
    rfl
  rw [e]
  exact List.filter_sublist.nodup ((srtS_perm _).nodup_iff.mpr (onceS_nodup _))
theorem tot_norm (s : Str) (ps : Prs) : tot s (norm ps) = tot s ps := by
  rw [← vl_tot (norm_keys_nodup ps), vl_norm]
theorem norm_mem {ps : Prs} {p : Str × Int} (h : p ∈ norm ps) : p.1 ∈ ps.map (·.1) := by
  unfold norm at h
  obtain ⟨s, hs, rfl⟩ := List.mem_map.mp h
  have := (List.mem_filter.mp hs).1
  rwa [(srtS_perm _).mem_iff, onceS_mem] at this
/-- the share of s when x is put in -/
def pg (x : Str) (qs ps : Prs) (s : Str) : Int := (if s = x then 0 else tot s ps) + tot x ps * tot s qs
theorem pin_over (x : Str) (m n : Int) (qs ps : Prs) : (pin x m qs n ps).2 = ((srtS (onceS (ps.map (·.1) ++ qs.map (·.1)))).filter fun s => decide (pg x qs ps s ≠ 0)).map fun s => (s, pg x qs ps s) := by
  have ht : ∀ s, tot s ((ps.filter fun p => !decide (p.1 = x)) ++ norm (qs.map fun p => (p.1, tot x ps * p.2))) = pg x qs ps s := fun s => by
    rw [tot_app, tot_without, tot_norm, tot_scale]; rfl
  show norm _ = _
  rw [norm_over (onceS_nodup _) (N := onceS (ps.map (·.1) ++ qs.map (·.1))) (fun p hp => by
    rw [onceS_mem, List.mem_append]
    rcases List.mem_append.mp hp with q | q
    · exact .inl (List.mem_map_of_mem (List.mem_filter.mp q).1)
    · have := norm_mem q
      rw [List.map_map] at this
      exact .inr this)]
  simp only [ht]
end Pf

set_option Elab.async false
set_option linter.all false
set_option maxRecDepth 100000
set_option maxHeartbeats 4000000
namespace Pf
open PySem L2
/-! ## more of plain statements: alike, names taken -/
theorem Rt_seq {g1 g2 : Ev → R Out} {ρ ρ' : Ev} (h : g1 ρ = .ok (.nx ρ')) : Rt (seqO g1 g2 ρ) = Rt (g2 ρ') := by
  simp only [seqO, h, R.ok_bind]
theorem goodTs_map {α : Type} {n : Nat} (g : α → T) : ∀ xs : List α, (∀ x ∈ xs, goodT n (g x) = true) → goodTs n (xs.map g) = true
  | [], _ => rfl
  | x :: xs, h => by
    rw [List.map_cons]; unfold goodTs
    rw [h x (by simp), goodTs_map g xs fun y hy => h y (List.mem_cons_of_mem _ hy)]; rfl
theorem good_enc : ∀ (n : Nat) (f : F), 2 * f.dep + 3 ≤ n → f.wid ≤ 1000 → f.all (fun _ _ ps => ps.length ≤ 1000) → f.plain = true → goodT n f.enc = true
  | 0, f, h, _, _, _ => by omega
  | 1, f, h, _, _, _ => by omega
  | n + 2, f, h, hw, ha, hp => by
    cases f with
    | e k y ps =>
      simp only [F.all, F.dep] at ha h
      obtain ⟨m, rfl⟩ : ∃ m, n = m + 3 := ⟨n - 3, by omega⟩
      have := good_sm m y ps (by omega)
      cases k <;> simp [F.enc, goodT, goodTs, this]
    | nt f =>
      simp only [F.dep, F.plain, F.wid, F.all] at h hp hw ha
      have := good_enc (n + 1) f (by omega) hw ha hp
      simp [F.enc, goodT, goodTs, this]
    | qn b y f => simp [F.plain] at hp
    | nd b fs =>
      simp only [F.dep, F.plain, F.wid, F.all] at h hp hw ha
      have : goodTs n (F.encs fs) = true := by
        rw [encs_map]
        refine goodTs_map F.enc fs fun f hf => ?_
        have hd := deps_mem hf
        have hw2 := wids_mem hf
        exact good_enc n f (by omega) (by omega) (alls_mem ha hf) (plains_mem hp hf)
      have hl : (F.encs fs).length < 4611686018427387904 := by rw [encs_len]; omega
      simp [F.enc, goodT, goodTs, this, hl]
mutual
theorem rep_dep (g : Int → Prs → Int × Prs) : ∀ f : F, (f.rep g).dep = f.dep
  | .e _ _ _ => rfl
  | .nt f => by simp only [F.rep, F.dep, rep_dep g f]
  | .nd _ fs => by simp only [F.rep, F.dep, reps_dep g fs]
  | .qn _ _ f => by simp only [F.rep, F.dep, rep_dep g f]
theorem reps_dep (g : Int → Prs → Int × Prs) : ∀ fs : List F, F.deps (F.reps g fs) = F.deps fs
  | [] => rfl
  | f :: fs => by simp only [F.reps, F.deps, rep_dep g f, reps_dep g fs]
end
mutual
theorem rep_wid (g : Int → Prs → Int × Prs) : ∀ f : F, (f.rep g).wid = f.wid
  | .e _ _ _ => rfl
  | .nt f => by simp only [F.rep, F.wid, rep_wid g f]
  | .nd _ fs => by
    have h := reps_wid g fs
    simp only [F.rep, F.wid, h]
    rw [reps_map, List.length_map]
  | .qn _ _ f => by simp only [F.rep, F.wid, rep_wid g f]
theorem reps_wid (g : Int → Prs → Int × Prs) : ∀ fs : List F, F.wids (F.reps g fs) = F.wids fs
  | [] => rfl
  | f :: fs => by simp only [F.reps, F.wids, rep_wid g f, reps_wid g fs]
end
mutual
theorem rep_plain (g : Int → Prs → Int × Prs) : ∀ f : F, (f.rep g).plain = f.plain
  | .e _ _ _ => rfl
  | .nt f => by simp only [F.rep, F.plain, rep_plain g f]
  | .nd _ fs => by simp only [F.rep, F.plain, reps_plain g fs]
  | .qn _ _ f => rfl
theorem reps_plain (g : Int → Prs → Int × Prs) : ∀ fs : List F, F.plains (F.reps g fs) = F.plains fs
  | [] => rfl
  | f :: fs => by simp only [F.reps, F.plains, rep_plain g f, reps_plain g fs]
end
mutual
theorem rep_all {g : Int → Prs → Int × Prs} {P Q : EK → Int → Prs → Prop} (h : ∀ k n ps, P k n ps → Q k (g n ps).1 (g n ps).2) : ∀ f : F, f.all P → (f.rep g).all Q
  | .e k n ps, q => by simp only [F.rep, F.all] at q ⊢; exact h k n ps q
  | .nt f, q => by simp only [F.rep, F.all] at q ⊢; exact rep_all h f q
  | .nd _ fs, q => by simp only [F.rep, F.all] at q ⊢; exact reps_all h fs q
  | .qn _ _ f, q => by simp only [F.rep, F.all] at q ⊢; exact rep_all h f q
theorem reps_all {g : Int → Prs → Int × Prs} {P Q : EK → Int → Prs → Prop} (h : ∀ k n ps, P k n ps → Q k (g n ps).1 (g n ps).2) : ∀ fs : List F, F.alls P fs → F.alls Q (F.reps g fs)
  | [], _ => by simp only [F.reps, F.alls]
  | f :: fs, q => by simp only [F.reps, F.alls] at q ⊢; exact ⟨rep_all h f q.1, reps_all h fs q.2⟩
end
theorem take_l (xs : List T) (k : Nat) : slD (.lst xs) none (some (k : Int)) = .ok (.lst (xs.take k)) := by
  simp only [slD, cutT]
  rw [HT.sIx_nat, HT.sIx_none]
  congr 2
  simp [List.take_eq_take_iff]
@[simp] theorem take_l3 (xs : List T) : slD (.lst xs) none (some 3) = .ok (.lst (xs.take 3)) := take_l xs 3
theorem sset_eq (l : List Str) (h : l.length < 4000) (h2 : (onceS l).length < 64) : ssetD (.lst (l.map T.str)) = .ok (.lst ((srtS (onceS l)).map T.str)) := by
  simp only [ssetD, asStrs_map]
  rw [if_pos ⟨h, h2⟩]
theorem once_len : ∀ l : List Str, (onceS l).length ≤ l.length
  | [] => by simp [onceS]
  | x :: r => by have := once_len r; unfold onceS; split <;> simp <;> omega
@[simp] theorem pow_10_12 : powD (.t (.int 10)) (.t (.int 12)) = .ok (.t (.int 1000000000000)) := by
  simp only [powD]; rw [if_pos (by decide)]; rfl
/-- all but the last -/
theorem cut_2 (a b : T) : slD (.t (.tup [a, b])) none (some (-1)) = .ok (.t (.tup [a])) := by rfl
theorem cut_3 (a b c : T) : slD (.t (.tup [a, b, c])) none (some (-1)) = .ok (.t (.tup [a, b])) := by rfl
theorem cell_s (ns : List Int) (k : Nat) : m_law_cell_at [.scr ns, .t (.int (k : Int))] = .ok (.t (.int (cell ns k))) := cell_at
theorem ix_name {N : List Str} (h4 : N.length = 4) (c : Int) : ∃ x ∈ N, ixD (.lst (N.map T.str)) (.t (.int (c % 4))) = .ok (.t (.str x)) := by
  refine ⟨N[(c % 4).toNat]'(by omega), List.getElem_mem _, ?_⟩
  rw [ix_l, atI_pos _ (by omega), List.getElem?_map, List.getElem?_eq_getElem (by omega)]
  rfl
theorem rd_names {f : F} {N : List Str} {W M : Int} (h : f.all (EndOk N W M)) : f.all (fun _ _ ps => Rg N ps) := all_mono (fun _ _ _ q => rg_sum q.1) f h
theorem most_ex (c : Int) : ∃ M : Int, 0 < M ∧ M ≤ 1000000000000 ∧ ixD (.lst [.int 6, .int 1000000000000]) (.t (.int (c % 2))) = .ok (.t (.int M)) := by
  have h2 : c % 2 = 0 ∨ c % 2 = 1 := by omega
  rcases h2 with h | h
  · exact ⟨6, by decide, by decide, by simp [h]⟩
  · exact ⟨1000000000000, by decide, by decide, by simp [h]⟩
end Pf

set_option Elab.async false
set_option linter.all false
set_option maxRecDepth 100000
set_option maxHeartbeats 4000000
namespace Pf
open PySem L2
/-! ## truth under values -/
def ek (k : EK) (z : Int) : Bool := match k with
  | .above => decide (0 < z)
  | .nought => decide (z = 0)
  | .goes h => decide (z % h = 0)
mutual
def F.tv (v : Str → Int) : F → Bool
  | .e k n ps => ek k (n + sv v ps)
  | .nt f => !f.tv v
  | .nd true fs => F.tvA v fs
  | .nd false fs => F.tvO v fs
  | .qn _ _ _ => false
def F.tvA (v : Str → Int) : List F → Bool
  | [] => true
  | f :: fs => f.tv v && F.tvA v fs
def F.tvO (v : Str → Int) : List F → Bool
  | [] => false
  | f :: fs => f.tv v || F.tvO v fs
end
/-- an end that can be reckoned: its shares small, what goes into it from 1 on -/
def Rk (k : EK) (_ : Int) (ps : Prs) : Prop := (∀ p ∈ ps, p.2.natAbs ≤ 1000000) ∧ ∀ h, k = .goes h → 1 ≤ h
theorem mulOk_s {p : Str × Int} (h : p.2.natAbs ≤ 1000000) (j : Int) : mulOk p.2 j = true := mulOk_l (by omega) (by omega)
/-- names of the ends stand in the values -/
def Kn (kvs : Prs) (_ : EK) (_ : Int) (ps : Prs) : Prop := ∀ p ∈ ps, p.1 ∈ kvs.map (·.1)
theorem value_in (n : Int) (ps kvs : Prs) (hk : ∀ p ∈ ps, p.1 ∈ kvs.map (·.1)) (hm : ∀ p ∈ ps, p.2.natAbs ≤ 1000000) : m_value [.t (smT n ps), .dct kvs] = .ok (.t (.int (n + sv (vl kvs) ps))) := by
  have := value_eq n ps kvs (fun p hp => mulOk_s (hm p hp) _)
  rwa [if_pos hk] at this
theorem lvalue_in (n : Int) (ps kvs : Prs) (hk : ∀ p ∈ ps, p.1 ∈ kvs.map (·.1)) (hm : ∀ p ∈ ps, p.2.natAbs ≤ 1000000) : m_law_value [.t (smT n ps), .dct kvs] = .ok (.t (.int (n + sv (vl kvs) ps))) :=
  lvalue_eq n ps kvs hk fun p hp => mulOk_s (hm p hp) _
@[simp] theorem eq_bb (a b : Bool) : eqD (.t (.bl a)) (.t (.bl b)) = .ok (.t (.bl (decide (a = b)))) := by
  cases a <;> cases b <;> rfl
@[simp] theorem ne_bb (a b : Bool) : neD (.t (.bl a)) (.t (.bl b)) = .ok (.t (.bl (!decide (a = b)))) := by
  cases a <;> cases b <;> rfl
theorem loop_all {body : Ev → R Out} {j : Nat} {r : Bool} (stop : Bool) (fr : Sl → Ev) (hset : ∀ x k, (fr k).set j x = fr x) (v : F → Bool) (fs : List F) (hb : ∀ f ∈ fs, body (fr (.d (.t f.enc) true)) = if v f = stop then .ok (.rt (.t (.bl r))) else .ok (.nx (fr (.d (.t f.enc) true)))) (k : Sl) :
    ((∃ f ∈ fs, v f = stop) → forR j body (F.encs fs) (fr k) = .ok (.rt (.t (.bl r)))) ∧ ((∀ f ∈ fs, v f ≠ stop) → ∃ k', forR j body (F.encs fs) (fr k) = .ok (.nx (fr k'))) := by
  induction fs generalizing k with
  | nil => exact ⟨fun ⟨f, h, _⟩ => by simp at h, fun _ => ⟨k, by simp [F.encs]⟩⟩
  | cons g gs ih =>
    have h0 := hb g (by simp)
    obtain ⟨i1, i2⟩ := ih (fun f hf => hb f (List.mem_cons_of_mem _ hf)) (.d (.t g.enc) true)
    by_cases hv : v g = stop
    · rw [if_pos hv] at h0
      refine ⟨fun _ => by simp only [F.encs, forR, hset, h0, R.ok_bind], fun q => absurd hv (q g (by simp))⟩
    · rw [if_neg hv] at h0
      refine ⟨fun ⟨f, hf, hq⟩ => ?_, fun q => ?_⟩
      · rcases List.mem_cons.mp hf with rfl | hf
        · exact absurd hq hv
        · simp only [F.encs, forR, hset, h0, R.ok_bind]; exact i1 ⟨f, hf, hq⟩
      · obtain ⟨k', e⟩ := i2 fun f hf => q f (List.mem_cons_of_mem _ hf)
        exact ⟨k', by simp only [F.encs, forR, hset, h0, R.ok_bind]; exact e⟩
theorem tvA_iff (v : Str → Int) : ∀ fs : List F, F.tvA v fs = true ↔ ∀ f ∈ fs, f.tv v ≠ false
  | [] => by simp [F.tvA]
  | f :: fs => by
    simp only [F.tvA, Bool.and_eq_true, tvA_iff v fs]
    simp
theorem tvO_iff (v : Str → Int) : ∀ fs : List F, F.tvO v fs = true ↔ ∃ f ∈ fs, f.tv v = true
  | [] => by simp [F.tvO]
  | f :: fs => by
    simp only [F.tvO, Bool.or_eq_true, tvO_iff v fs]
    simp
theorem truth_eq (kvs : Prs) : ∀ (n : Nat) (f : F), f.dep ≤ n → f.plain = true → f.all Rk → f.all (Kn kvs) → m_truth n [.t f.enc, .dct kvs] = .ok (.t (.bl (f.tv (vl kvs))))
  | 0, f, h, _, _, _ => by cases f <;> simp [F.dep] at h
  | n + 1, f, h, hp, hr, hk => by
    unfold m_truth g_truth
    rw [runDef_Rt]
    cases f with
    | e k y ps =>
      simp only [F.all] at hr hk
      have e := value_in y ps kvs hk hr.1
      cases k with
      | above => simp [F.enc, F.tv, ek, e]
      | nought => simp [F.enc, F.tv, ek, e]
      | goes z =>
        have h1 := hr.2 z rfl
        have hm := mod_ii (y + sv (vl kvs) ps) z (by omega)
        simp [F.enc, F.tv, ek, e, hm]
    | nt f =>
      simp only [F.dep, F.plain, F.all] at h hp hr hk
      have := truth_eq kvs n f (by omega) hp hr hk
      simp [F.enc, F.tv, this]
    | qn b y f => simp [F.plain] at hp
    | nd b fs =>
      simp only [F.dep, F.plain, F.all] at h hp hr hk
      have hrec : ∀ g ∈ fs, m_truth n [.t g.enc, .dct kvs] = .ok (.t (.bl (g.tv (vl kvs)))) := fun g hg => by
        have h1 := deps_mem hg
        exact truth_eq kvs n g (by omega) (plains_mem hp hg) (alls_mem hr hg) (alls_mem hk hg)
      cases b with
      | true =>
        obtain ⟨k1, k2⟩ := loop_all (j := 4) (r := false) (body := (ifO (tNot1 (tV (ap (m_truth n) (cA (rdE 4) (cA (rdE 1) nA))))) (retO (kB false)) nxO)) false (fun k => [.d (.t (F.enc (.nd true fs))) false, .d (.dct kvs) false, .d (.t (.str "and")) true, .un, k]) (fun _ _ => rfl) (fun f => f.tv (vl kvs)) fs (fun g hg => by
          have := hrec g hg
          cases hv : g.tv (vl kvs) <;> simp [this, hv]) .un
        simp only [F.tv]
        cases hv : F.tvA (vl kvs) fs with
        | true =>
          obtain ⟨k', e⟩ := k2 ((tvA_iff _ _).mp hv)
          simp only [F.enc] at e
          simp [F.enc] at e ⊢
          simp [e]
        | false =>
          have e := k1 (by
            by_cases q : ∃ f ∈ fs, f.tv (vl kvs) = false
            · exact q
            · have := (tvA_iff (vl kvs) fs).mpr (fun f hf e => q ⟨f, hf, e⟩)
              rw [hv] at this; cases this)
          simp only [F.enc] at e
          simp [F.enc] at e ⊢
          simp [e]
      | false =>
        obtain ⟨k1, k2⟩ := loop_all (j := 4) (r := true) (body := (ifO (tV (ap (m_truth n) (cA (rdE 4) (cA (rdE 1) nA)))) (retO (kB true)) nxO)) true (fun k => [.d (.t (F.enc (.nd false fs))) false, .d (.dct kvs) false, .d (.t (.str "or")) true, .un, k]) (fun _ _ => rfl) (fun f => f.tv (vl kvs)) fs (fun g hg => by
          have := hrec g hg
          cases hv : g.tv (vl kvs) <;> simp [this, hv]) .un
        simp only [F.tv]
        cases hv : F.tvO (vl kvs) fs with
        | false =>
          obtain ⟨k', e⟩ := k2 (fun f hf e => by
            have := (tvO_iff (vl kvs) fs).mpr ⟨f, hf, e⟩
            rw [hv] at this; cases this)
          simp only [F.enc] at e
          simp [F.enc] at e ⊢
          simp [e]
        | true =>
          have e := k1 ((tvO_iff _ _).mp hv)
          simp only [F.enc] at e
          simp [F.enc] at e ⊢
          simp [e]
theorem ltrue_eq (kvs : Prs) : ∀ (n : Nat) (f : F), f.dep ≤ n → f.plain = true → f.all Rk → f.all (Kn kvs) → m_law_true n [.t f.enc, .dct kvs] = .ok (.t (.bl (f.tv (vl kvs))))
  | 0, f, h, _, _, _ => by cases f <;> simp [F.dep] at h
  | n + 1, f, h, hp, hr, hk => by
    unfold m_law_true g_law_true
    rw [runDef_Rt]
    cases f with
    | e k y ps =>
      simp only [F.all] at hr hk
      have e := lvalue_in y ps kvs hk hr.1
      cases k with
      | above => simp [F.enc, F.tv, ek, e]
      | nought => simp [F.enc, F.tv, ek, e]
      | goes z =>
        have h1 := hr.2 z rfl
        have hm := mod_ii (y + sv (vl kvs) ps) z (by omega)
        simp [F.enc, F.tv, ek, e, hm]
    | nt f =>
      simp only [F.dep, F.plain, F.all] at h hp hr hk
      have := ltrue_eq kvs n f (by omega) hp hr hk
      simp [F.enc, F.tv, this]
    | qn b y f => simp [F.plain] at hp
    | nd b fs =>
      simp only [F.dep, F.plain, F.all] at h hp hr hk
      have hrec : ∀ g ∈ fs, m_law_true n [.t g.enc, .dct kvs] = .ok (.t (.bl (g.tv (vl kvs)))) := fun g hg => by
        have h1 := deps_mem hg
        exact ltrue_eq kvs n g (by omega) (plains_mem hp hg) (alls_mem hr hg) (alls_mem hk hg)
      cases b with
      | true =>
        obtain ⟨k1, k2⟩ := loop_all (j := 4) (r := false) (body := (ifO (tV (b2 eqD (ap (m_law_true n) (cA (rdE 4) (cA (rdE 1) nA))) (b2 eqD (rdE 2) (kS "or")))) (retO (b2 eqD (rdE 2) (kS "or"))) nxO)) false (fun k => [.d (.t (F.enc (.nd true fs))) false, .d (.dct kvs) false, .d (.t (.str "and")) true, .un, k]) (fun _ _ => rfl) (fun f => f.tv (vl kvs)) fs (fun g hg => by
          have := hrec g hg
          cases hv : g.tv (vl kvs) <;> simp [this, hv]) .un
        simp only [F.tv]
        cases hv : F.tvA (vl kvs) fs with
        | true =>
          obtain ⟨k', e⟩ := k2 ((tvA_iff _ _).mp hv)
          simp only [F.enc] at e
          simp [F.enc] at e ⊢
          simp [e]
        | false =>
          have e := k1 (by
            by_cases q : ∃ f ∈ fs, f.tv (vl kvs) = false
            · exact q
            · have := (tvA_iff (vl kvs) fs).mpr (fun f hf e => q ⟨f, hf, e⟩)
              rw [hv] at this; cases this)
          simp only [F.enc] at e
          simp [F.enc] at e ⊢
          simp [e]
      | false =>
        obtain ⟨k1, k2⟩ := loop_all (j := 4) (r := true) (body := (ifO (tV (b2 eqD (ap (m_law_true n) (cA (rdE 4) (cA (rdE 1) nA))) (b2 eqD (rdE 2) (kS "or")))) (retO (b2 eqD (rdE 2) (kS "or"))) nxO)) true (fun k => [.d (.t (F.enc (.nd false fs))) false, .d (.dct kvs) false, .d (.t (.str "or")) true, .un, k]) (fun _ _ => rfl) (fun f => f.tv (vl kvs)) fs (fun g hg => by
          have := hrec g hg
          cases hv : g.tv (vl kvs) <;> simp [this, hv]) .un
        simp only [F.tv]
        cases hv : F.tvO (vl kvs) fs with
        | false =>
          obtain ⟨k', e⟩ := k2 (fun f hf e => by
            have := (tvO_iff (vl kvs) fs).mpr ⟨f, hf, e⟩
            rw [hv] at this; cases this)
          simp only [F.enc] at e
          simp [F.enc] at e ⊢
          simp [e]
        | true =>
          have e := k1 ((tvO_iff _ _).mp hv)
          simp only [F.enc] at e
          simp [F.enc] at e ⊢
          simp [e]
end Pf

set_option Elab.async false
set_option linter.all false
set_option maxRecDepth 100000
set_option maxHeartbeats 4000000
namespace Pf
open PySem L2
/-! ## ends of edges, values of a script -/
theorem dict_loop {body : Ev → R Out} {j : Nat} (fr : Prs → Sl → Ev) (hset : ∀ kvs k x, (fr kvs k).set j x = fr kvs x) (N : List Str) (m : Nat) (hm : m ≤ N.length) (hl : N.length ≤ 10) (val : Nat → Int) (kvs0 : Prs) (h0 : kvs0.length ≤ 10) (hd0 : (kvs0.map (·.1)).Nodup)
    (hb : ∀ (i : Nat) (kvs : Prs) (hi : i < m), kvs.length ≤ 20 → body (fr kvs (.d (.t (.int (0 + (i : Int)))) true)) = .ok (.nx (fr (putL kvs (N[i]'(by omega)) (val i)) (.d (.t (.int (0 + (i : Int)))) true)))) (k : Sl) :
    ∃ kvs k', forR j body (rngT 0 m) (fr kvs0 k) = .ok (.nx (fr kvs k')) ∧ (∀ s, s ∈ kvs.map (·.1) ↔ s ∈ kvs0.map (·.1) ∨ s ∈ N.take m) ∧ (kvs.map (·.1)).Nodup ∧ kvs.length ≤ kvs0.length + m := by
  obtain ⟨ρ', e, kvs, k', rfl, h1, h2, h3⟩ := forR_rng (j := j) (lo := 0) (n := m) (body := body) (ρ := fr kvs0 k)
    (fun i ρ => ∃ kvs k, ρ = fr kvs k ∧ (∀ s, s ∈ kvs.map (·.1) ↔ s ∈ kvs0.map (·.1) ∨ s ∈ N.take i) ∧ (kvs.map (·.1)).Nodup ∧ kvs.length ≤ kvs0.length + i)
    (fun i ρ hi ⟨kvs, k, e, h1, h2, h3⟩ => by
      subst e
      rw [hset, hb i kvs hi (by omega)]
      have hN : N[i]? = some (N[i]'(by omega)) := List.getElem?_eq_getElem (by omega)
      have hlen := congrArg List.length (keys_put kvs (N[i]'(by omega)) (val i))
      rw [List.length_map] at hlen
      refine ⟨_, rfl, _, _, rfl, fun s => ?_, ?_, ?_⟩
      · rw [keys_put, List.take_add_one, hN]
        split
        · rename_i hk
          rw [h1, List.mem_append]
          constructor
          · rintro (q | q)
            · exact .inl q
            · exact .inr (.inl q)
          · rintro (q | q | q)
            · exact .inl q
            · exact .inr q
            · simp at q; subst q; exact (h1 _).mp hk
        · rw [List.mem_append, h1, List.mem_append]
          simp [or_assoc]
      · rw [keys_put]; split
        · exact h2
        · rename_i hk
          rw [List.nodup_append]
          refine ⟨h2, by simp, ?_⟩
          intro a ha b hb e
          simp at hb
          exact hk (by rw [← hb, ← e]; exact ha)
      · rw [hlen]
        split <;> simp <;> omega) ⟨kvs0, k, rfl, fun s => by simp, hd0, by omega⟩
  exact ⟨kvs, k', e, h1, h2, h3⟩
/-- ends over N: shares to 3 -/
def EOk (N : List Str) (k : EK) (_ : Int) (ps : Prs) : Prop := Rg N ps ∧ (∀ p ∈ ps, p.2.natAbs ≤ 3) ∧ ∀ h, k = .goes h → 1 ≤ h
theorem eok_of {N : List Str} {M : Int} {k : EK} {n : Int} {ps : Prs} (h : EndOk N 3 M k n ps) : EOk N k n ps :=
  ⟨rg_sum h.1, fun p hp => by have := h.1.2.2 p hp; omega, fun z e => (h.2 z e).1⟩
theorem eok_len {N : List Str} {k : EK} {n : Int} {ps : Prs} (h : EOk N k n ps) : ps.length ≤ N.length := by
  have := h.1.sub.length_le
  rwa [List.length_map, (srtS_perm N).length_eq] at this
theorem edge_by_ex (c : Int) (N : List Str) (kvs : Prs) (hN : N.length < 64) (hk : ∀ s ∈ N, s ∈ kvs.map (·.1)) : ∃ f : F, f.all (EOk N) ∧ f.plain = true ∧ f.dep ≤ 2 ∧ f.wid = 0 ∧ f.sz ≤ N.length ∧ m_law_edge_by [.t (.int c), .lst (N.map T.str), .dct kvs] = .ok (.t f.enc) := by
  obtain ⟨n, ps, s1, e1⟩ := sum_by_ex (c / 12) N 3 hN (by decide) (by decide)
  have hr := rg_sum s1
  have hs : ∀ p ∈ ps, p.2.natAbs ≤ 3 := fun p hp => by have := s1.2.2 p hp; omega
  have hl : ps.length ≤ N.length := by
    have := s1.1.length_le
    rwa [List.length_map, (srtS_perm N).length_eq] at this
  have hv := lvalue_in n ps kvs (fun p hp => hk _ (hr.mem p hp)) (fun p hp => by have := hs p hp; omega)
  generalize n + sv (vl kvs) ps = z at hv
  have hsm : ∀ y : Int, T.tup [.int y, .tup (ps.map prT)] = smT y ps := fun _ => rfl
  obtain ⟨e, he, h1, h2, h3, h4⟩ : ∃ k : EK, (∀ h, k = .goes h → 1 ≤ h) ∧ ixD (.lst [.tup [.str "above", smT (n - z + c % 3 - 1) ps], .tup [.str "nought", smT (n - z + c % 3 - 1) ps], .tup [.str "goes", .int (1 + c / 9 % 40), smT (n - z + c % 3 - 1) ps]]) (.t (.int (c / 3 % 3))) = .ok (.t (F.e k (n - z + c % 3 - 1) ps).enc) ∧ True ∧ True ∧ True := by
    have h3 : c / 3 % 3 = 0 ∨ c / 3 % 3 = 1 ∨ c / 3 % 3 = 2 := by omega
    rcases h3 with h | h | h
    · exact ⟨.above, (fun z e => by cases e), by simp [h, F.enc], trivial, trivial, trivial⟩
    · exact ⟨.nought, (fun z e => by cases e), by simp [h, F.enc], trivial, trivial, trivial⟩
    · exact ⟨.goes (1 + c / 9 % 40), (fun z e => by cases e; omega), by simp [h, F.enc], trivial, trivial, trivial⟩
  have hall : EOk N e (n - z + c % 3 - 1) ps := ⟨hr, hs, he⟩
  unfold m_law_edge_by g_law_edge_by
  rw [runDef_Rt]
  by_cases q : c / 7 % 2 = 1
  · refine ⟨.nt (.e e (n - z + c % 3 - 1) ps), by simp only [F.all]; exact hall, rfl, by simp [F.dep], by simp [F.wid], by simp only [F.sz]; exact hl, ?_⟩
    simp [e1, hv, hsm, h1, q, F.enc]
  · refine ⟨.e e (n - z + c % 3 - 1) ps, by simp only [F.all]; exact hall, rfl, by simp [F.dep], by simp [F.wid], by simp only [F.sz]; exact hl, ?_⟩
    simp [e1, hv, hsm, h1, q, retN]
theorem all_rk {N : List Str} {f : F} (h : f.all (EOk N)) : f.all Rk := all_mono (fun k n ps q => ⟨fun p hp => by have := q.2.1 p hp; omega, q.2.2⟩) f h
theorem all_kn {N : List Str} {kvs : Prs} {f : F} (h : f.all (EOk N)) (hk : ∀ s ∈ N, s ∈ kvs.map (·.1)) : f.all (Kn kvs) := all_mono (fun k n ps q => fun p hp => hk _ (q.1.mem p hp)) f h
end Pf

set_option Elab.async false
set_option linter.all false
set_option maxRecDepth 100000
set_option maxHeartbeats 4000000
namespace Pf
open PySem L2
/-! ## straight -/
def bk (ps : Prs) : Prs := norm (ps.map fun p => (p.1, -1 * p.2))
mutual
def F.turn : Bool → F → F
  | true, .e .above n ps => .e .above n ps
  | false, .e .above n ps => .e .above (1 + -n) (norm (bk ps))
  | true, .e .nought n ps => .nd true [.e .above (1 + n) (norm ps), .e .above (1 + -n) (norm (bk ps))]
  | false, .e .nought n ps => .nd false [.e .above n ps, .e .above (-n) (bk ps)]
  | true, .e (.goes h) n ps => .e (.goes h) n ps
  | false, .e (.goes h) n ps => .nt (.e (.goes h) n ps)
  | y, .nt f => f.turn (!y)
  | y, .nd b fs => .nd (b == y) (F.turns y fs)
  | _, .qn b x f => .qn b x f
def F.turns : Bool → List F → List F
  | _, [] => []
  | y, f :: fs => f.turn y :: F.turns y fs
end
theorem turns_map (y : Bool) : ∀ fs : List F, F.turns y fs = fs.map (F.turn y)
  | [] => by simp [F.turns]
  | f :: fs => by simp [F.turns, turns_map y fs]
theorem added_one (n : Int) (ps : Prs) (h : ps.length < 60) : m_added [.t (.tup [.int 1, .tup []]), .t (smT n ps)] = .ok (.t (smT (1 + n) (norm ps))) := added_eq 1 n [] ps (by simp; omega)
theorem times_neg (n : Int) (ps : Prs) (h : ps.length < 60) : m_times [.t (.int (-1)), .t (smT n ps)] = .ok (.t (smT (-n) (bk ps))) := by
  have := times_eq (-1) n ps (by omega) (mulOk_l (by decide) (by decide)) (fun p hp => mulOk_l (by decide) (by decide))
  rw [this]
  have e : -1 * n = -n := by omega
  rw [e]; rfl
theorem turned_eq : ∀ (n : Nat) (f : F) (y : Bool), f.dep ≤ n → f.plain = true → f.wid ≤ 16777216 → f.all (fun _ _ ps => ps.length < 40) → m_turned n [.t f.enc, .t (.bl y)] = .ok (.t (f.turn y).enc)
  | 0, f, y, h, _, _, _ => by cases f <;> simp [F.dep] at h
  | n + 1, f, y, h, hp, hw, ha => by
    unfold m_turned g_turned
    rw [runDef_Rt]
    cases f with
    | e k x ps =>
      simp only [F.all] at ha
      have t1 := times_neg x ps (by omega)
      have hb : (bk ps).length < 60 := by
        have := norm_len (ps.map fun p => (p.1, -1 * p.2))
        rw [List.length_map] at this
        show (norm _).length < 60
        omega
      have a1 := added_one x ps (by omega)
      have a2 := added_one (-x) (bk ps) hb
      cases k <;> cases y <;> simp [F.enc, F.encs, F.turn, t1, a1, a2, retN]
    | nt f =>
      simp only [F.dep, F.plain, F.wid, F.all] at h hp hw ha
      have := turned_eq n f (!y) (by omega) hp hw ha
      simp [F.enc, F.turn, this]
    | qn b z f => simp [F.plain] at hp
    | nd b fs =>
      simp only [F.dep, F.plain, F.wid, F.all] at h hp hw ha
      have hl : ∀ ρ : Ev, (∀ z o, rdE 6 (ρ.set 6 (.d z o)) = .ok z) → (∀ z, rdE 1 (ρ.set 6 z) = .ok (.t (.bl y))) → lcR 6 yes (ap (m_turned n) (cA (rdE 6) (cA (rdE 1) nA))) ρ (F.encs fs) = .ok (F.encs (F.turns y fs)) := by
        intro ρ h1 h2
        rw [encs_map, encs_map, turns_map]
        have := lcR_map (j := 6) (c := yes) (el := ap (m_turned n) (cA (rdE 6) (cA (rdE 1) nA))) (ρ := ρ) F.enc (fun _ => true) (fun f => (f.turn y).enc) fs (fun f hf => ⟨rfl, fun _ => by
          have hd := deps_mem hf
          have hw2 := wids_mem hf
          have := turned_eq n f y (by omega) (plains_mem hp hf) (by omega) (alls_mem ha hf)
          simp only [ap, cA, nA, h1, h2, R.ok_bind, this]⟩)
        have ef : fs.filter (fun _ => true) = fs := by simp
        rw [ef] at this
        rw [this, List.map_map]; rfl
      have hl' := hl [.d (.t (F.enc (.nd b fs))) false, .d (.t (.bl y)) false, .d (.t (.str (bw b))) true, .un, .un, .un, .un] (fun z o => rfl) (fun z => rfl)
      have hlen : (F.encs fs).length ≤ 16777216 := by rw [encs_len]; omega
      simp only [F.enc] at hl'
      cases b <;> cases y <;> simp [F.enc, F.turn, hlen] at hl' ⊢ <;> simp [hl']
/-! ### what it keeps -/
theorem sv_bk (v : Str → Int) (ps : Prs) : sv v (bk ps) = - sv v ps := by
  unfold bk; rw [sv_norm, sv_scale]; omega
mutual
theorem turn_tv (v : Str → Int) : ∀ (f : F) (y : Bool), f.plain = true → (f.turn y).tv v = (f.tv v == y)
  | .e .above n ps, true, _ => by simp only [F.turn]; cases (F.e .above n ps).tv v <;> rfl
  | .e .above n ps, false, _ => by
    simp only [F.turn, F.tv, ek, sv_norm, sv_bk]
    by_cases h : 0 < n + sv v ps
    · rw [decide_eq_true h, decide_eq_false (by omega)]; rfl
    · rw [decide_eq_false h, decide_eq_true (by omega)]; rfl
  | .e .nought n ps, true, _ => by
    simp only [F.turn, F.tv, F.tvA, ek, sv_norm, sv_bk]
    by_cases h : n + sv v ps = 0
    · rw [decide_eq_true h, decide_eq_true (by omega : 0 < 1 + n + sv v ps), decide_eq_true (by omega)]; rfl
    · rw [decide_eq_false h]
      by_cases h2 : 0 < n + sv v ps
      · rw [decide_eq_false (by omega : ¬ 0 < 1 + -n + -sv v ps)]; simp
      · rw [decide_eq_false (by omega : ¬ 0 < 1 + n + sv v ps)]; simp
  | .e .nought n ps, false, _ => by
    simp only [F.turn, F.tv, F.tvO, ek, sv_bk]
    by_cases h : n + sv v ps = 0
    · rw [decide_eq_true h, decide_eq_false (by omega : ¬ 0 < n + sv v ps), decide_eq_false (by omega)]; rfl
    · rw [decide_eq_false h]
      by_cases h2 : 0 < n + sv v ps
      · rw [decide_eq_true h2]; rfl
      · rw [decide_eq_true (by omega : 0 < -n + -sv v ps)]; simp
  | .e (.goes h) n ps, true, _ => by simp only [F.turn]; cases (F.e (.goes h) n ps).tv v <;> rfl
  | .e (.goes h) n ps, false, _ => by simp only [F.turn, F.tv]; cases ek (.goes h) (n + sv v ps) <;> rfl
  | .nt f, y, hp => by
    simp only [F.plain] at hp
    simp only [F.turn, F.tv, turn_tv v f (!y) hp]
    cases f.tv v <;> cases y <;> rfl
  | .nd true fs, true, hp => by
    simp only [F.plain] at hp
    simp only [F.turn, F.tv]
    show F.tvA v (F.turns true fs) = _
    rw [(turns_tv v fs true hp).1]; simp
  | .nd true fs, false, hp => by
    simp only [F.plain] at hp
    simp only [F.turn, F.tv]
    show F.tvO v (F.turns false fs) = _
    rw [(turns_tv v fs false hp).2]; cases F.tvA v fs <;> rfl
  | .nd false fs, true, hp => by
    simp only [F.plain] at hp
    simp only [F.turn, F.tv]
    show F.tvO v (F.turns true fs) = _
    rw [(turns_tv v fs true hp).2]; simp
  | .nd false fs, false, hp => by
    simp only [F.plain] at hp
    simp only [F.turn, F.tv]
    show F.tvA v (F.turns false fs) = _
    rw [(turns_tv v fs false hp).1]; cases F.tvO v fs <;> rfl
  | .qn _ _ _, _, hp => by simp [F.plain] at hp
theorem turns_tv (v : Str → Int) : ∀ (fs : List F) (y : Bool), F.plains fs = true → F.tvA v (F.turns y fs) = (if y then F.tvA v fs else !F.tvO v fs) ∧ F.tvO v (F.turns y fs) = (if y then F.tvO v fs else !F.tvA v fs)
  | [], y, _ => by cases y <;> simp [F.turns, F.tvA, F.tvO]
  | f :: fs, y, hp => by
    simp only [F.plains, Bool.and_eq_true] at hp
    obtain ⟨i1, i2⟩ := turns_tv v fs y hp.2
    have h := turn_tv v f y hp.1
    simp only [F.turns, F.tvA, F.tvO, i1, i2, h]
    cases y <;> cases f.tv v <;> simp
end
mutual
theorem turn_plain : ∀ (f : F) (y : Bool), f.plain = true → (f.turn y).plain = true
  | .e .above n ps, true, _ => rfl
  | .e .above n ps, false, _ => rfl
  | .e .nought n ps, true, _ => rfl
  | .e .nought n ps, false, _ => rfl
  | .e (.goes h) n ps, true, _ => rfl
  | .e (.goes h) n ps, false, _ => rfl
  | .nt f, y, hp => by simp only [F.plain] at hp; simp only [F.turn]; exact turn_plain f _ hp
  | .nd b fs, y, hp => by simp only [F.plain] at hp; simp only [F.turn, F.plain]; exact turns_plain fs y hp
  | .qn _ _ _, _, hp => by simp [F.plain] at hp
theorem turns_plain : ∀ (fs : List F) (y : Bool), F.plains fs = true → F.plains (F.turns y fs) = true
  | [], y, _ => by simp [F.turns, F.plains]
  | f :: fs, y, hp => by
    simp only [F.plains, Bool.and_eq_true] at hp
    simp only [F.turns, F.plains, turn_plain f y hp.1, turns_plain fs y hp.2]; rfl
end
mutual
theorem turn_dep : ∀ (f : F) (y : Bool), (f.turn y).dep ≤ f.dep + 1
  | .e .above n ps, true => by simp [F.turn, F.dep]
  | .e .above n ps, false => by simp [F.turn, F.dep]
  | .e .nought n ps, true => by simp [F.turn, F.dep, F.deps]
  | .e .nought n ps, false => by simp [F.turn, F.dep, F.deps]
  | .e (.goes h) n ps, true => by simp [F.turn, F.dep]
  | .e (.goes h) n ps, false => by simp [F.turn, F.dep]
  | .nt f, y => by have := turn_dep f (!y); simp only [F.turn, F.dep]; omega
  | .nd b fs, y => by have := turns_dep fs y; simp only [F.turn, F.dep]; omega
  | .qn _ _ _, _ => by simp [F.turn]
theorem turns_dep : ∀ (fs : List F) (y : Bool), F.deps (F.turns y fs) ≤ F.deps fs + 1
  | [], y => by simp [F.turns, F.deps]
  | f :: fs, y => by
    have h1 := turn_dep f y
    have h2 := turns_dep fs y
    simp only [F.turns, F.deps]; omega
end
mutual
theorem turn_wid : ∀ (f : F) (y : Bool), (f.turn y).wid ≤ max 2 f.wid
  | .e .above n ps, true => by simp [F.turn, F.wid]
  | .e .above n ps, false => by simp [F.turn, F.wid]
  | .e .nought n ps, true => by simp [F.turn, F.wid, F.wids]
  | .e .nought n ps, false => by simp [F.turn, F.wid, F.wids]
  | .e (.goes h) n ps, true => by simp [F.turn, F.wid]
  | .e (.goes h) n ps, false => by simp [F.turn, F.wid]
  | .nt f, y => by have := turn_wid f (!y); simp only [F.turn, F.wid]; omega
  | .nd b fs, y => by
    have := turns_wid fs y
    have h : (F.turns y fs).length = fs.length := by rw [turns_map, List.length_map]
    simp only [F.turn, F.wid, h]; omega
  | .qn _ _ _, _ => by simp only [F.turn]; omega
theorem turns_wid : ∀ (fs : List F) (y : Bool), F.wids (F.turns y fs) ≤ max 2 (F.wids fs)
  | [], y => by simp [F.turns, F.wids]
  | f :: fs, y => by
    have h1 := turn_wid f y
    have h2 := turns_wid fs y
    simp only [F.turns, F.wids]; omega
end
/-- from the ends to the straight ends -/
def Tn (P Q : EK → Int → Prs → Prop) : Prop := ∀ k n ps, P k n ps → (∀ m, Q .above m ps ∧ Q .above m (norm ps) ∧ Q .above m (bk ps) ∧ Q .above m (norm (bk ps))) ∧ ∀ h, k = .goes h → Q (.goes h) n ps
mutual
theorem turn_all {P Q : EK → Int → Prs → Prop} (H : Tn P Q) : ∀ (f : F) (y : Bool), f.plain = true → f.all P → (f.turn y).all Q
  | .e .above n ps, true, _, q => by simp only [F.turn, F.all] at q ⊢; exact ((H _ _ _ q).1 _).1
  | .e .above n ps, false, _, q => by simp only [F.turn, F.all] at q ⊢; exact ((H _ _ _ q).1 _).2.2.2
  | .e .nought n ps, true, _, q => by simp only [F.turn, F.all, F.alls] at q ⊢; exact ⟨((H _ _ _ q).1 _).2.1, ((H _ _ _ q).1 _).2.2.2, trivial⟩
  | .e .nought n ps, false, _, q => by simp only [F.turn, F.all, F.alls] at q ⊢; exact ⟨((H _ _ _ q).1 _).1, ((H _ _ _ q).1 _).2.2.1, trivial⟩
  | .e (.goes h) n ps, true, _, q => by simp only [F.turn, F.all] at q ⊢; exact (H _ _ _ q).2 h rfl
  | .e (.goes h) n ps, false, _, q => by simp only [F.turn, F.all] at q ⊢; exact (H _ _ _ q).2 h rfl
  | .nt f, y, hp, q => by simp only [F.plain, F.turn, F.all] at hp q ⊢; exact turn_all H f _ hp q
  | .nd b fs, y, hp, q => by simp only [F.plain, F.turn, F.all] at hp q ⊢; exact turns_all H fs y hp q
  | .qn _ _ _, _, hp, _ => by simp [F.plain] at hp
theorem turns_all {P Q : EK → Int → Prs → Prop} (H : Tn P Q) : ∀ (fs : List F) (y : Bool), F.plains fs = true → F.alls P fs → F.alls Q (F.turns y fs)
  | [], y, _, _ => by simp [F.turns, F.alls]
  | f :: fs, y, hp, q => by
    simp only [F.plains, Bool.and_eq_true] at hp
    simp only [F.turns, F.alls] at q ⊢
    exact ⟨turn_all H f y hp.1 q.1, turns_all H fs y hp.2 q.2⟩
end
/-! above, goes, and, or, and not goes alone -/
mutual
def F.str : F → Bool
  | .e .above _ _ => true
  | .e .nought _ _ => false
  | .e (.goes _) _ _ => true
  | .nt (.e (.goes _) _ _) => true
  | .nt _ => false
  | .nd _ fs => F.strs fs
  | .qn _ _ _ => false
def F.strs : List F → Bool
  | [] => true
  | f :: fs => f.str && F.strs fs
end
theorem strs_mem {f : F} : ∀ {fs : List F}, F.strs fs = true → f ∈ fs → f.str = true
  | g :: fs, h, hm => by
    simp only [F.strs, Bool.and_eq_true] at h
    rcases List.mem_cons.mp hm with rfl | hm
    · exact h.1
    · exact strs_mem h.2 hm
mutual
theorem turn_str : ∀ (f : F) (y : Bool), f.plain = true → (f.turn y).str = true
  | .e .above n ps, true, _ => rfl
  | .e .above n ps, false, _ => rfl
  | .e .nought n ps, true, _ => rfl
  | .e .nought n ps, false, _ => rfl
  | .e (.goes h) n ps, true, _ => rfl
  | .e (.goes h) n ps, false, _ => rfl
  | .nt f, y, hp => by simp only [F.plain] at hp; simp only [F.turn]; exact turn_str f _ hp
  | .nd b fs, y, hp => by simp only [F.plain] at hp; simp only [F.turn, F.str]; exact turns_str fs y hp
  | .qn _ _ _, _, hp => by simp [F.plain] at hp
theorem turns_str : ∀ (fs : List F) (y : Bool), F.plains fs = true → F.strs (F.turns y fs) = true
  | [], y, _ => by simp [F.turns, F.strs]
  | f :: fs, y, hp => by
    simp only [F.plains, Bool.and_eq_true] at hp
    simp only [F.turns, F.strs, turn_str f y hp.1, turns_str fs y hp.2]; rfl
end
end Pf

set_option Elab.async false
set_option linter.all false
set_option maxRecDepth 100000
set_option maxHeartbeats 4000000
namespace Pf
open PySem L2
/-! ## what a plain statement must be -/
theorem bw_ne (b : Bool) : (bw b = "not") = False ∧ (bw b = "goes") = False ∧ (bw b = "above") = False ∧ (bw b = "nought") = False := by cases b <;> simp
theorem straight_is_eq : ∀ (n : Nat) (f : F), f.dep ≤ n → f.str = true → m_law_straight_is n [.t f.enc] = .ok (.t (.bl true))
  | 0, f, h, _ => by cases f <;> simp [F.dep] at h
  | n + 1, f, h, hs => by
    unfold m_law_straight_is g_law_straight_is
    rw [runDef_Rt]
    cases f with
    | e k y ps => cases k <;> simp [F.enc, F.str] at hs ⊢
    | nt f =>
      cases f with
      | e k y ps => cases k <;> simp [F.enc, F.str] at hs ⊢
      | _ => simp [F.str] at hs
    | qn b y f => simp [F.str] at hs
    | nd b fs =>
      simp only [F.dep, F.str] at h hs
      have hrec : ∀ g ∈ fs, m_law_straight_is n [.t g.enc] = .ok (.t (.bl true)) := fun g hg => by
        have h1 := deps_mem hg
        exact straight_is_eq n g (by omega) (strs_mem hs hg)
      obtain ⟨_, k2⟩ := loop_all (j := 2) (r := false) (body := (ifO (tNot1 (tV (ap (m_law_straight_is n) (cA (rdE 2) nA)))) (retO (kB false)) nxO)) false (fun k => [.d (.t (F.enc (.nd b fs))) false, .d (.t (.str (bw b))) true, k]) (fun _ _ => rfl) (fun _ => true) fs (fun g hg => by
        have := hrec g hg
        simp [this]) .un
      obtain ⟨k', e⟩ := k2 (by simp)
      simp only [F.enc] at e
      cases b <;> simp [F.enc] at e ⊢ <;> simp [e]
/-- an end that is right over the names L -/
def PN (L : List Str) (k : EK) (_ : Int) (ps : Prs) : Prop := (∃ N', N'.Nodup ∧ Rg N' ps ∧ ∀ s ∈ N', s ∈ L) ∧ ∀ h, k = .goes h → 1 ≤ h
theorem plain_is_eq (L : List Str) (hne : ∀ s ∈ L, s.cps.toList ≠ []) : ∀ (n : Nat) (f : F), f.dep ≤ n → f.plain = true → f.wid ≤ 16777216 → f.all (PN L) → m_law_plain_is n [.t f.enc, .lst (L.map T.str)] = .ok (.t (.bl true))
  | 0, f, h, _, _, _ => by cases f <;> simp [F.dep] at h
  | n + 1, f, h, hp, hw, ha => by
    unfold m_law_plain_is g_law_plain_is
    rw [runDef_Rt]
    cases f with
    | e k y ps =>
      simp only [F.all] at ha
      obtain ⟨⟨N', q1, q2, q3⟩, q4⟩ := ha
      have e := sum_is_eq y L N' ps q2 q1 q3 hne
      cases k with
      | above => simp [F.enc, e]
      | nought => simp [F.enc, e]
      | goes z =>
        have := q4 z rfl
        simp [F.enc, e, show 0 < z by omega]
    | nt f =>
      simp only [F.dep, F.plain, F.wid, F.all] at h hp hw ha
      have := plain_is_eq L hne n f (by omega) hp hw ha
      simp [F.enc, this]
    | qn b y f => simp [F.plain] at hp
    | nd b fs =>
      simp only [F.dep, F.plain, F.wid, F.all] at h hp hw ha
      have hrec : ∀ g ∈ fs, m_law_plain_is n [.t g.enc, .lst (L.map T.str)] = .ok (.t (.bl true)) := fun g hg => by
        have h1 := deps_mem hg
        have hw2 := wids_mem hg
        exact plain_is_eq L hne n g (by omega) (plains_mem hp hg) (by omega) (alls_mem ha hg)
      obtain ⟨_, k2⟩ := loop_all (j := 3) (r := false) (body := (ifO (tNot1 (tV (ap (m_law_plain_is n) (cA (rdE 3) (cA (rdE 1) nA))))) (retO (kB false)) nxO)) false (fun k => [.d (.t (F.enc (.nd b fs))) false, .d (.lst (L.map T.str)) false, .d (.t (.str (bw b))) true, k]) (fun _ _ => rfl) (fun _ => true) fs (fun g hg => by
        have := hrec g hg
        simp [this]) .un
      obtain ⟨k', e⟩ := k2 (by simp)
      simp only [F.enc] at e
      cases b <;> simp [F.enc] at e ⊢ <;> simp [e]
mutual
/-- in a plain statement all names stand free -/
theorem all_free (L : List Str) : ∀ f : F, f.plain = true → (∀ s ∈ f.free [], s ∈ L) → f.all (fun _ _ ps => ∀ p ∈ ps, p.1 ∈ L)
  | .e _ _ ps, _, h => by
    simp only [F.all, F.free] at h ⊢
    intro p hp
    exact h p.1 (List.mem_map_of_mem (List.mem_filter.mpr ⟨hp, by simp⟩))
  | .nt f, hp, h => by simp only [F.all, F.free, F.plain] at hp h ⊢; exact all_free L f hp h
  | .nd _ fs, hp, h => by simp only [F.all, F.free, F.plain] at hp h ⊢; exact alls_free L fs hp h
  | .qn _ _ _, hp, _ => by simp [F.plain] at hp
theorem alls_free (L : List Str) : ∀ fs : List F, F.plains fs = true → (∀ s ∈ F.frees fs [], s ∈ L) → F.alls (fun _ _ ps => ∀ p ∈ ps, p.1 ∈ L) fs
  | [], _, _ => trivial
  | f :: fs, hp, h => by
    simp only [F.plains, Bool.and_eq_true] at hp
    simp only [F.alls, F.frees] at h ⊢
    exact ⟨all_free L f hp.1 (fun s q => h s (List.mem_append_left _ q)), alls_free L fs hp.2 (fun s q => h s (List.mem_append_right _ q))⟩
end
mutual
theorem all_and {P Q : EK → Int → Prs → Prop} : ∀ f : F, f.all P → f.all Q → f.all (fun k n ps => P k n ps ∧ Q k n ps)
  | .e k n ps, p, q => by simp only [F.all] at p q ⊢; exact ⟨p, q⟩
  | .nt f, p, q => by simp only [F.all] at p q ⊢; exact all_and f p q
  | .nd _ fs, p, q => by simp only [F.all] at p q ⊢; exact alls_and fs p q
  | .qn _ _ f, p, q => by simp only [F.all] at p q ⊢; exact all_and f p q
theorem alls_and {P Q : EK → Int → Prs → Prop} : ∀ fs : List F, F.alls P fs → F.alls Q fs → F.alls (fun k n ps => P k n ps ∧ Q k n ps) fs
  | [], _, _ => trivial
  | f :: fs, p, q => by simp only [F.alls] at p q ⊢; exact ⟨all_and f p.1 q.1, alls_and fs p.2 q.2⟩
end
/-- a sum over its own names -/
theorem rg_own {N : List Str} {ps : Prs} (h : Rg N ps) (hd : N.Nodup) : (ps.map (·.1)).Nodup ∧ Rg (ps.map (·.1)) ps := by
  have hn := h.nodup hd
  refine ⟨hn, ?_, h.ne⟩
  have h1 : (ps.map (·.1)).Pairwise fun a b => leS a b = true := (srtS_pw N).sublist h.sub
  have e : srtS (ps.map (·.1)) = ps.map (·.1) := (srtS_perm _).eq_of_pairwise (fun a b _ _ h1 h2 => leS_antisymm h1 h2) (srtS_pw _) h1
  rw [e]; exact List.Sublist.refl _
theorem bk_names (ps : Prs) : ∀ p ∈ ps.map (fun p => (p.1, -1 * p.2)), p.1 ∈ ps.map (·.1) := fun p hp => by
  obtain ⟨q, hq, rfl⟩ := List.mem_map.mp hp
  exact List.mem_map.mpr ⟨q, hq, rfl⟩
/-- what is right over L stays so, straight -/
theorem tn_PN {N L : List Str} (hd : N.Nodup) : Tn (fun k n ps => EOk N k n ps ∧ ∀ p ∈ ps, p.1 ∈ L) (PN L) := by
  rintro k n ps ⟨⟨h1, h2, h3⟩, h4⟩
  obtain ⟨o1, o2⟩ := rg_own h1 hd
  have hL : ∀ s ∈ ps.map (·.1), s ∈ L := fun s hs => by obtain ⟨p, hp, rfl⟩ := List.mem_map.mp hs; exact h4 p hp
  have hb : Rg (ps.map (·.1)) (bk ps) := rg_norm o1 (bk_names ps)
  refine ⟨fun m => ⟨⟨⟨_, o1, o2, hL⟩, ?_⟩, ⟨⟨_, o1, rg_norm o1 (fun p hp => List.mem_map_of_mem hp), hL⟩, ?_⟩, ⟨⟨_, o1, hb, hL⟩, ?_⟩, ⟨⟨_, o1, rg_norm o1 hb.mem, hL⟩, ?_⟩⟩, fun z e => ⟨⟨_, o1, o2, hL⟩, fun z' e' => ?_⟩⟩
  · intro z e; cases e
  · intro z e; cases e
  · intro z e; cases e
  · intro z e; cases e
  · cases e'; exact h3 z e
/-- .. can be reckoned -/
theorem bk_small {ps : Prs} {B : Nat} (h : ∀ p ∈ ps, p.2.natAbs ≤ B) : ∀ p ∈ bk ps, p.2.natAbs ≤ ps.length * B := by
  have := norm_bound B (ps.map fun p => (p.1, -1 * p.2)) (fun p hp => by
    obtain ⟨q, hq, rfl⟩ := List.mem_map.mp hp
    have := h q hq
    show (-1 * q.2).natAbs ≤ B
    omega)
  rwa [List.length_map] at this
theorem tn_Rk {N : List Str} (hN : N.length ≤ 10) : Tn (EOk N) Rk := by
  rintro k n ps ⟨h1, h2, h3⟩
  have hl : ps.length ≤ 10 := by
    have := h1.sub.length_le
    rw [List.length_map, (srtS_perm N).length_eq] at this; omega
  have b1 := bk_small h2
  have bl : (bk ps).length ≤ 10 := by
    have := norm_len (ps.map fun p => (p.1, -1 * p.2))
    rw [List.length_map] at this
    show (norm _).length ≤ 10
    omega
  have b2 := norm_bound 3 ps h2
  have b3 := norm_bound 30 (bk ps) (fun p hp => Nat.le_trans (b1 p hp) (Nat.mul_le_mul_right 3 hl))
  refine ⟨fun m => ⟨⟨fun p hp => ?_, ?_⟩, ⟨fun p hp => ?_, ?_⟩, ⟨fun p hp => ?_, ?_⟩, ⟨fun p hp => ?_, ?_⟩⟩, fun z e => ⟨fun p hp => ?_, fun z' e' => ?_⟩⟩
  · have := h2 p hp; omega
  · intro z e; cases e
  · have := b2 p hp
    have : ps.length * 3 ≤ 10 * 3 := Nat.mul_le_mul_right _ hl
    omega
  · intro z e; cases e
  · have := b1 p hp
    have : ps.length * 3 ≤ 10 * 3 := Nat.mul_le_mul_right _ hl
    omega
  · intro z e; cases e
  · have := b3 p hp
    have : (bk ps).length * 30 ≤ 10 * 30 := Nat.mul_le_mul_right _ bl
    omega
  · intro z e; cases e
  · have := h2 p hp; omega
  · cases e'; exact h3 z e
/-- .. of names that stand in the values -/
theorem tn_Kn {N : List Str} {kvs : Prs} (hk : ∀ s ∈ N, s ∈ kvs.map (·.1)) : Tn (EOk N) (Kn kvs) := by
  rintro k n ps ⟨h1, h2, h3⟩
  have h0 : ∀ p ∈ ps, p.1 ∈ kvs.map (·.1) := fun p hp => hk _ (h1.mem p hp)
  have hn : ∀ qs : Prs, (∀ p ∈ qs, p.1 ∈ kvs.map (·.1)) → ∀ p ∈ norm qs, p.1 ∈ kvs.map (·.1) := fun qs hq p hp => by
    obtain ⟨q, q1, q2⟩ := List.mem_map.mp (norm_mem hp)
    rw [← q2]; exact hq q q1
  have hb : ∀ p ∈ bk ps, p.1 ∈ kvs.map (·.1) := hn _ (fun p hp => by
    obtain ⟨q, hq, rfl⟩ := List.mem_map.mp hp
    exact h0 q hq)
  exact ⟨fun m => ⟨h0, hn _ h0, hb, hn _ hb⟩, fun z e => h0⟩
end Pf

set_option Elab.async false
set_option linter.all false
set_option maxRecDepth 100000
set_option maxHeartbeats 4000000
namespace Pf
open PySem L2
/-! ## is_true -/
theorem nodup_sub {l : List Str} : ∀ {N : List Str}, l.Nodup → (∀ x ∈ l, x ∈ N) → l.length ≤ N.length := by
  induction l with
  | nil => intro N _ _; exact Nat.zero_le _
  | cons x r ih =>
    intro N hd hs
    obtain ⟨h1, h2⟩ := List.nodup_cons.mp hd
    have hx := hs x (by simp)
    have := ih (N := N.erase x) h2 (fun y hy => (List.mem_erase_of_ne (fun e : y = x => h1 (by rw [← e]; exact hy))).mpr (hs y (List.mem_cons_of_mem _ hy)))
    rw [List.length_erase_of_mem hx] at this
    have hp := List.length_pos_of_mem hx
    rw [List.length_cons]; omega
theorem unknowns_eq (f : F) (N : List Str) (h1 : f.dep ≤ 60) (h2 : f.sz < 4000) (h3 : f.all (fun _ _ ps => ∀ p ∈ ps, p.1 ∈ N)) (h4 : N.length < 64) : m_unknowns [.t f.enc] = .ok (.lst ((srtS (onceS (f.free []))).map T.str)) := by
  have e := free_in_eq 60 f [] h1 (by omega) (by simp; omega)
  have hl := free_len f []
  have hs : (onceS (f.free [])).length ≤ N.length := nodup_sub (onceS_nodup _) fun x hx => free_sub f [] N h3 x ((onceS_mem x _).mp hx)
  have q := sset_eq (f.free []) (by omega) (by omega)
  unfold m_unknowns g_unknowns
  rw [runDef_Rt]
  simp only [List.map_nil] at e
  simp [e, q]
theorem srtOnce_mem (s : Str) (l : List Str) : s ∈ srtS (onceS l) ↔ s ∈ l := by rw [(srtS_perm _).mem_iff, onceS_mem]
theorem need_values_eq (l : List Str) (kvs : Prs) : m_need_values [.lst (l.map T.str), .dct kvs] = if ∀ s ∈ l, s ∈ kvs.map (·.1) then .ok (.t .non) else .raise 0 := by
  have key : ∀ (m : List Str) (k : Sl), Rt (forR 2 (ifO (tV (b2 ninD (rdE 2) (rdE 1))) (raiseO 0) nxO) (m.map T.str) [.d (.lst (l.map T.str)) false, .d (.dct kvs) false, k]) = if ∀ s ∈ m, s ∈ kvs.map (·.1) then .ok (.t .non) else .raise 0 := by
    intro m
    induction m with
    | nil => intro k; simp [Rt]
    | cons s m ih =>
      intro k
      have i1 := ih (.d (.t (.str s)) true)
      by_cases h : s ∈ kvs.map (·.1)
      · have hc : (∀ q ∈ s :: m, q ∈ kvs.map (·.1)) ↔ ∀ q ∈ m, q ∈ kvs.map (·.1) := ⟨fun h q hq => h q (List.mem_cons_of_mem _ hq), fun h2 q hq => (List.mem_cons.mp hq).elim (fun e => e ▸ h) (h2 q)⟩
        simp only [hc]
        rw [← i1]
        simp [forR, h, -List.mem_map]
      · rw [if_neg (fun q => h (q s (by simp)))]
        simp [forR, h, Rt, -List.mem_map]
  have := key l .un
  unfold m_need_values g_need_values
  rw [runDef_Rt]
  simp [forNO] at this ⊢
  exact this
/-- is_true of a statement -/
theorem is_true_eq (f : F) (N : List Str) (kvs : Prs) (h1 : f.dep ≤ 60) (h2 : f.sz < 4000) (h3 : f.all (EOk N)) (h4 : N.length < 64) : m_is_true [.t f.enc, .dct kvs] = if f.plain then (if ∀ s ∈ f.free [], s ∈ kvs.map (·.1) then .ok (.t (.bl (f.tv (vl kvs)))) else .raise 0) else .raise 1 := by
  have e1 := need_plain_eq f h1
  have e2 := unknowns_eq f N h1 h2 (all_mono (fun k n ps q => q.1.mem) f h3) h4
  have e3 := need_values_eq (srtS (onceS (f.free []))) kvs
  simp only [srtOnce_mem] at e3
  unfold m_is_true g_is_true
  rw [runDef_Rt]
  cases hp : f.plain with
  | false => rw [hp] at e1; simp [e1, Rt]
  | true =>
    rw [hp] at e1
    simp only [if_true] at e1 ⊢
    by_cases hv : ∀ s ∈ f.free [], s ∈ kvs.map (·.1)
    · rw [if_pos hv] at e3 ⊢
      have e4 := truth_eq kvs 60 f h1 hp (all_rk h3) (all_mono (fun k n ps q p hp => hv _ (q p hp)) f (all_free (f.free []) f hp fun s hs => hs))
      simp [e1, e2, e3, e4]
    · rw [if_neg hv] at e3 ⊢
      simp [e1, e2, e3, Rt]
theorem strOk_nm {s : Str} (h : Nm s) : PyData.strOk s = true := by
  obtain ⟨_, h2, h3⟩ := h
  unfold PyData.strOk
  rw [Array.all_eq_true']
  intro c hc
  have := h3 c (Array.mem_toList_iff.mpr hc)
  simp; omega
theorem lay_strs : ∀ l : List Str, (∀ s ∈ l, Nm s) → PyData.canLayAll0 (toPys (l.map T.str)) = true ∧ PyData.depthAll (toPys (l.map T.str)) ≤ 1
  | [], _ => by simp [toPys, PyData.canLayAll0, PyData.depthAll]
  | s :: l, h => by
    obtain ⟨i1, i2⟩ := lay_strs l fun x hx => h x (List.mem_cons_of_mem _ hx)
    simp only [List.map_cons, toPys, toPy, PyData.canLayAll0, PyData.canLay0, PyData.depthAll, PyData.depth, strOk_nm (h s (by simp)), i1, Bool.and_self, true_and]
    omega
theorem shaped_strs (l : List Str) (h : ∀ s ∈ l, Nm s) : SeqAt.shaped (.list (toPys (l.map T.str))) = true := by
  obtain ⟨i1, i2⟩ := lay_strs l h
  unfold SeqAt.shaped
  have e1 : PyData.canLay0 (.list (toPys (l.map T.str))) = true := i1
  have e2 : PyData.depth (.list (toPys (l.map T.str))) ≤ 64 := Nat.le_trans (Nat.succ_le_succ i2) (by decide)
  rw [e1, decide_eq_true e2]; rfl
theorem ne_strs_nil (l : List Str) (h : ∀ s ∈ l, Nm s) : neD (.lst (l.map T.str)) (.lst []) = .ok (.t (.bl (!decide (l = [])))) := by
  have h1 := shaped_strs l h
  have h2 : SeqAt.shaped (.list (toPys [])) = true := by rfl
  simp only [neD, eqB, h1, h2, Bool.and_self, if_true]
  cases l <;> simp [toPys, PyData.eqv, PyData.eqvAll]
end Pf

set_option Elab.async false
set_option linter.all false
set_option maxRecDepth 100000
set_option maxHeartbeats 4000000
namespace Pf
open PySem L2
/-! ## numbers and names of a note -/
theorem minus_eq : ("-" : Str) = sl [45] := by decide +kernel
theorem mnull_eq : ("-0" : Str) = sl [45, 48] := by decide +kernel
theorem null_eq : ("0" : Str) = sl [48] := by decide +kernel
theorem empty_eq : ("" : Str) = sl [] := by decide +kernel
theorem digits_eq : ("0123456789" : Str) = sl (List.range' 48 10) := by decide +kernel
theorem mem_digits (c : Nat) : c ∈ (("0123456789" : Str)).cps.toList ↔ 48 ≤ c ∧ c ≤ 57 := by
  rw [digits_eq, sl_cps, List.mem_range'_1]; omega
theorem mem_letters (c : Nat) : c ∈ (("abcdefghijklmnopqrstuvwxyz" : Str)).cps.toList ↔ 97 ≤ c ∧ c ≤ 122 := by
  rw [letters_eq, sl_cps, List.mem_range'_1]; omega
def bodyL (l : List Nat) : List Nat := if l.take 1 = [45] then l.drop 1 else l
def numOk (l : List Nat) : Prop := bodyL l ≠ [] ∧ (bodyL l).length ≤ 60 ∧ l ≠ [45, 48] ∧ ¬ ((bodyL l).head? = some 48 ∧ 1 < (bodyL l).length) ∧ ∀ c ∈ bodyL l, 48 ≤ c ∧ c ≤ 57
open Classical in
noncomputable def num (w : Str) : Option Int := if numOk w.cps.toList then PySem.intText? w else none
theorem num_some {w : Str} (h : numOk w.cps.toList) : ∃ n, PySem.intText? w = some n ∧ num w = some n ∧ w.length ≤ 61 := by
  obtain ⟨h1, h2, h3, h4, h5⟩ := h
  have hl : w.cps.toList.length = w.length := Array.length_toList
  have hn : num w = PySem.intText? w := by unfold num; rw [if_pos ⟨h1, h2, h3, h4, h5⟩]
  by_cases hm : w.cps.toList.take 1 = [45]
  · have hb : bodyL w.cps.toList = w.cps.toList.drop 1 := by unfold bodyL; rw [if_pos hm]
    have hc : w.cps.toList = 45 :: w.cps.toList.drop 1 := by
      conv => lhs; rw [← List.take_append_drop 1 w.cps.toList, hm]
      rfl
    rw [hb] at h1 h2 h5
    have hl2 : w.length ≤ 61 := by rw [← hl, hc, List.length_cons]; omega
    have := PySem.intText_neg hc h5 h1 (by omega)
    exact ⟨_, this, hn.trans this, hl2⟩
  · have hb : bodyL w.cps.toList = w.cps.toList := by unfold bodyL; rw [if_neg hm]
    rw [hb] at h1 h2 h5
    have := PySem.intText_digits h5 h1 (by omega)
    exact ⟨_, this, hn.trans this, by omega⟩
theorem num_none {w : Str} (h : ¬ numOk w.cps.toList) : num w = none := by unfold num; rw [if_neg h]
theorem in_sign (c : Nat) (S : Str) : ninD (.t (.str ⟨#[c]⟩)) (.t (.str S)) = .ok (.t (.bl (!decide (c ∈ S.cps.toList)))) := by
  simp [ninD, inB]
theorem signs_sl (b : List Nat) : signs (sl b) = b.map fun c => T.str ⟨#[c]⟩ := by unfold signs; rw [sl_cps]
/-- all signs of a text among some -/
theorem sign_loop (j : Nat) (S : Str) (X : Ev → R Out) (x0 : R Out) (hX : ∀ ρ, X ρ = x0) (h0 : (∃ d, x0 = .ok (.rt d)) ∨ x0 = .raise 2) : ∀ (b : List Nat) (ρ : Ev), j < ρ.length →
    ((∀ c ∈ b, c ∈ S.cps.toList) → ∃ k : Sl, forR j (ifO (tV (b2 ninD (rdE j) (kS S))) X nxO) (b.map fun c => T.str ⟨#[c]⟩) ρ = .ok (.nx (ρ.set j k))) ∧
    ((¬ ∀ c ∈ b, c ∈ S.cps.toList) → forR j (ifO (tV (b2 ninD (rdE j) (kS S))) X nxO) (b.map fun c => T.str ⟨#[c]⟩) ρ = x0)
  | [], ρ, hj => by
    refine ⟨fun _ => ⟨ρ[j], ?_⟩, fun h => absurd (by simp) h⟩
    simp [forR]
  | c :: b, ρ, hj => by
    have hg : rdE j (ρ.set j (.d (.t (.str ⟨#[c]⟩)) true)) = .ok (.t (.str ⟨#[c]⟩)) := by
      unfold rdE
      rw [List.getElem?_set_self hj]
    obtain ⟨i1, i2⟩ := sign_loop j S X x0 hX h0 b (ρ.set j (.d (.t (.str ⟨#[c]⟩)) true)) (by simpa using hj)
    have hb : tV (b2 ninD (rdE j) (kS S)) (ρ.set j (.d (.t (.str ⟨#[c]⟩)) true)) = .ok (!decide (c ∈ S.cps.toList)) := by
      unfold tV b2
      rw [hg]
      simp only [R.ok_bind, kS, in_sign]; rfl
    by_cases hc : c ∈ S.cps.toList
    · have hb' : ifO (tV (b2 ninD (rdE j) (kS S))) X nxO (ρ.set j (.d (.t (.str ⟨#[c]⟩)) true)) = .ok (.nx (ρ.set j (.d (.t (.str ⟨#[c]⟩)) true))) := by
        unfold ifO
        rw [hb]; simp [hc]
      refine ⟨fun h => ?_, fun h => ?_⟩
      · obtain ⟨k, e⟩ := i1 fun d hd => h d (List.mem_cons_of_mem _ hd)
        refine ⟨k, ?_⟩
        rw [List.set_set] at e
        rw [List.map_cons, forR, hb']
        exact e
      · have := i2 fun q => h fun d hd => (List.mem_cons.mp hd).elim (fun e => e ▸ hc) (q d)
        rw [List.map_cons, forR, hb']
        exact this
    · have hb' : ifO (tV (b2 ninD (rdE j) (kS S))) X nxO (ρ.set j (.d (.t (.str ⟨#[c]⟩)) true)) = x0 := by
        unfold ifO
        rw [hb]; simp [hc, hX]
      refine ⟨fun h => absurd (h c (by simp)) hc, fun _ => ?_⟩
      rw [List.map_cons, forR, hb']
      rcases h0 with ⟨d, rfl⟩ | rfl <;> rfl
theorem head_b {b : List Nat} (h : b ≠ []) : ∃ c r, b = c :: r := by
  cases b with
  | nil => exact absurd rfl h
  | cons c r => exact ⟨c, r, rfl⟩
theorem law_number_eq (w : Str) (hw : w.length ≤ 1000000) : m_law_number [.t (.str w)] = .ok (.t (match num w with | some n => .int n | none => .non)) := by
  have hl : w.cps.toList.length = w.length := Array.length_toList
  have hws : w = sl w.cps.toList := sl_of w
  generalize hL : w.cps.toList = l at hl hws
  have ht := take_sl l 1 (by omega)
  have hd0 := drop_sl l 0 (by omega)
  have hd1 := drop_sl l 1 (by omega)
  have hm : (sl (l.take 1) = sl [45]) ↔ l.take 1 = [45] := sl_inj
  unfold m_law_number g_law_number
  rw [runDef_Rt]
  have s1 : ∀ k1 k2 : Sl, (setO 1 (sl3 (rdE 0) (sS (ap intD (cA (b2 eqD (sl3 (rdE 0) sN (sS (kI 1))) (kS "-")) nA))) sN)) [.d (.t (.str w)) false, k1, k2] = .ok (.nx [.d (.t (.str w)) false, .d (.t (.str (sl (bodyL l)))) true, k2]) := by
    intro k1 k2
    rw [hws, minus_eq]
    have h1 : ((1 : Nat) : Int) = 1 := rfl
    have h00 : ((0 : Nat) : Int) = 0 := rfl
    rw [h1] at ht hd1
    rw [h00] at hd0
    unfold bodyL
    by_cases q : l.take 1 = [45]
    · rw [if_pos q]
      have q2 := hm.mpr q
      simp [ht, q2, intD, hd1]
    · rw [if_neg q]
      have q2 : ¬ sl (l.take 1) = sl [45] := fun e => q (hm.mp e)
      simp [ht, q2, intD, hd0]
  refine (Rt_seq (s1 .un .un)).trans ?_
  have hbl : (bodyL l).length ≤ 1000000 := by
    unfold bodyL
    split
    · rw [List.length_drop]; omega
    · omega
  have e1 : (sl (bodyL l) = ("" : Str)) ↔ bodyL l = [] := by rw [empty_eq]; exact sl_inj
  have e2 : (w = ("-0" : Str)) ↔ l = [45, 48] := by rw [hws, mnull_eq]; exact sl_inj
  have hlen : lenD [.t (.str (sl (bodyL l)))] = .ok (.t (.int (bodyL l).length)) := by simp only [lenD, sl_len]; rw [if_pos (by omega)]
  by_cases hok : numOk l
  · obtain ⟨n, hn, hn2, hw61⟩ := num_some (w := w) (by rw [hL]; exact hok)
    obtain ⟨h1, h2, h3, h4, h5⟩ := hok
    obtain ⟨c, r, hb⟩ := head_b h1
    rw [hn2]
    have g1 : ¬ sl (bodyL l) = ("" : Str) := fun e => h1 (e1.mp e)
    have g2 : ¬ w = ("-0" : Str) := fun e => h3 (e2.mp e)
    have g3 : ¬ ((60 : Int) < ((bodyL l).length : Int)) := by omega
    have hix : ixD (.t (.str (sl (bodyL l)))) (.t (.int 0)) = .ok (.t (.str (sl [c]))) := by
      simp only [ixD, sl_len, sl_cps]; rw [if_pos (by omega), hb, atI_pos _ (by decide)]; rfl
    have hc0 : (sl [c] = ("0" : Str)) ↔ c = 48 := by rw [null_eq, sl_inj]; simp
    have hint : intSD [.t (.str w)] = .ok (.t (.int n)) := by simp only [intSD, hn]; rw [if_pos (by omega)]
    have s2 : tOr2 (tV (b2 eqD (rdE 1) (kS ""))) (tOr2 (tV (b2 gtD (ap lenD (cA (rdE 1) nA)) (kI 60))) (tOr2 (tV (b2 eqD (rdE 0) (kS "-0"))) (tAnd2 (tV (b2 eqD (b2 ixD (rdE 1) (kI 0)) (kS "0"))) (tV (b2 gtD (ap lenD (cA (rdE 1) nA)) (kI 1)))))) [.d (.t (.str w)) false, .d (.t (.str (sl (bodyL l)))) true, .un] = .ok false := by
      by_cases q : c = 48
      · have g4 : ¬ ((1 : Int) < ((bodyL l).length : Int)) := fun e => h4 ⟨by rw [hb, q]; rfl, by omega⟩
        have g4' : ¬ (1 < (bodyL l).length) := by omega
        have g3' : ¬ (60 < (bodyL l).length) := by omega
        have q2 := hc0.mpr q
        simp [g1, g2, g3, g3', hlen, hix, q2, g4, g4']
      · have q2 : ¬ sl [c] = ("0" : Str) := fun e => q (hc0.mp e)
        have g3' : ¬ (60 < (bodyL l).length) := by omega
        simp [g1, g2, g3, g3', hlen, hix, q2]
    refine (Rt_seq (by unfold ifO; rw [s2]; rfl)).trans ?_
    obtain ⟨k, e⟩ := (sign_loop 2 "0123456789" (retO kN) (.ok (.rt (.t .non))) (fun _ => rfl) (.inl ⟨_, rfl⟩) (bodyL l) [.d (.t (.str w)) false, .d (.t (.str (sl (bodyL l)))) true, .un] (by simp)).1 (fun d hd => (mem_digits d).mpr (h5 d hd))
    refine (Rt_seq (by simp only [forSO, rdE_0, rdE_s, R.ok_bind, signs_sl]; exact e)).trans ?_
    simp [hint]
  · rw [num_none (w := w) (by rw [hL]; exact hok)]
    by_cases h1 : bodyL l = []
    · have g1 := e1.mpr h1
      simp [g1]
    by_cases h2' : 60 < (bodyL l).length
    · have g1 : ¬ sl (bodyL l) = ("" : Str) := fun e => h1 (e1.mp e)
      have h2i : (60 : Int) < ((bodyL l).length : Int) := by omega
      simp [g1, hlen, h2', h2i]
    have h2 : (bodyL l).length ≤ 60 := by omega
    by_cases h3 : l = [45, 48]
    · have g1 : ¬ sl (bodyL l) = ("" : Str) := fun e => h1 (e1.mp e)
      have g2 := e2.mpr h3
      have g3' : ¬ ((60 : Int) < ((bodyL l).length : Int)) := by omega
      simp [g1, g2, hlen, g3']
    obtain ⟨c, r, hb⟩ := head_b h1
    have g1 : ¬ sl (bodyL l) = ("" : Str) := fun e => h1 (e1.mp e)
    have g2 : ¬ w = ("-0" : Str) := fun e => h3 (e2.mp e)
    have g3' : ¬ (60 < (bodyL l).length) := by omega
    have g3 : ¬ ((60 : Int) < ((bodyL l).length : Int)) := by omega
    have hix : ixD (.t (.str (sl (bodyL l)))) (.t (.int 0)) = .ok (.t (.str (sl [c]))) := by
      simp only [ixD, sl_len, sl_cps]; rw [if_pos (by omega), hb, atI_pos _ (by decide)]; rfl
    have hc0 : (sl [c] = ("0" : Str)) ↔ c = 48 := by rw [null_eq, sl_inj]; simp
    by_cases h4 : c = 48 ∧ 1 < (bodyL l).length
    · have q2 := hc0.mpr h4.1
      have g4 := h4.2
      have g4i : (1 : Int) < ((bodyL l).length : Int) := by omega
      simp [g1, g2, g3, g3', hlen, hix, q2, g4, g4i]
    · have s2 : tOr2 (tV (b2 eqD (rdE 1) (kS ""))) (tOr2 (tV (b2 gtD (ap lenD (cA (rdE 1) nA)) (kI 60))) (tOr2 (tV (b2 eqD (rdE 0) (kS "-0"))) (tAnd2 (tV (b2 eqD (b2 ixD (rdE 1) (kI 0)) (kS "0"))) (tV (b2 gtD (ap lenD (cA (rdE 1) nA)) (kI 1)))))) [.d (.t (.str w)) false, .d (.t (.str (sl (bodyL l)))) true, .un] = .ok false := by
        by_cases q : c = 48
        · have g4' : ¬ (1 < (bodyL l).length) := fun e => h4 ⟨q, e⟩
          have q2 := hc0.mpr q
          have g4i : ¬ ((1 : Int) < ((bodyL l).length : Int)) := by omega
          simp [g1, g2, g3, g3', hlen, hix, q2, g4', g4i]
        · have q2 : ¬ sl [c] = ("0" : Str) := fun e => q (hc0.mp e)
          simp [g1, g2, g3, g3', hlen, hix, q2]
      have h5 : ¬ ∀ d ∈ bodyL l, d ∈ (("0123456789" : Str)).cps.toList := fun q => hok ⟨h1, h2, h3, fun ⟨a, b⟩ => h4 ⟨by rw [hb] at a; simpa using a, b⟩, fun d hd => (mem_digits d).mp (q d hd)⟩
      refine (Rt_seq (by unfold ifO; rw [s2]; rfl)).trans ?_
      have e := (sign_loop 2 "0123456789" (retO kN) (.ok (.rt (.t .non))) (fun _ => rfl) (.inl ⟨_, rfl⟩) (bodyL l) [.d (.t (.str w)) false, .d (.t (.str (sl (bodyL l)))) true, .un] (by simp)).2 h5
      unfold seqO
      simp only [forSO, rdE_0, rdE_s, R.ok_bind, signs_sl]
      rw [e]; rfl
end Pf

set_option Elab.async false
set_option linter.all false
set_option maxRecDepth 100000
set_option maxHeartbeats 4000000
namespace Pf
open PySem L2
open Classical in
noncomputable def isNm (w : Str) : Bool := decide (Nm w)
theorem isNm_iff {w : Str} : isNm w = true ↔ Nm w := by unfold isNm; simp
theorem word_at_eq (ws : List Str) (at_ : Nat) : m_word_at [.lst (ws.map T.str), .t (.int (at_ : Int))] = match ws[at_]? with | some w => .ok (.t (.str w)) | none => .raise 2 := by
  unfold m_word_at g_word_at
  rw [runDef_Rt]
  by_cases h : at_ < ws.length
  · have h' : ¬ ((ws.length : Int) ≤ (at_ : Int)) := by omega
    have h'' : ¬ (ws.length ≤ at_) := by omega
    rw [List.getElem?_eq_getElem h]
    simp [h', h'', h]
  · have h' : ((ws.length : Int) ≤ (at_ : Int)) := by omega
    have h'' : (ws.length ≤ at_) := by omega
    rw [List.getElem?_eq_none (by omega)]
    simp [h', h'', Rt]
theorem law_is_name_eq (w : Str) (hw : w.length ≤ 1000000) : m_law_is_name [.t (.str w)] = .ok (.t (.bl (isNm w))) := by
  have hl : w.cps.toList.length = w.length := Array.length_toList
  have hws : w = sl w.cps.toList := sl_of w
  have hlen : lenD [.t (.str w)] = .ok (.t (.int w.length)) := by simp only [lenD]; rw [if_pos (by omega)]
  unfold m_law_is_name g_law_is_name
  rw [runDef_Rt]
  have hsg : signs w = w.cps.toList.map fun c => T.str ⟨#[c]⟩ := rfl
  obtain ⟨l1, l2⟩ := sign_loop 1 "abcdefghijklmnopqrstuvwxyz" (retO (kB false)) (.ok (.rt (.t (.bl false)))) (fun _ => rfl) (.inl ⟨_, rfl⟩) w.cps.toList [.d (.t (.str w)) false, .un] (by simp)
  by_cases h : ∀ c ∈ w.cps.toList, c ∈ (("abcdefghijklmnopqrstuvwxyz" : Str)).cps.toList
  · obtain ⟨k, e⟩ := l1 h
    refine (Rt_seq (by simp only [List.map_cons, List.map_nil, List.cons_append, List.nil_append, un_s, un_0, forSO, rdE_0, rdE_s, R.ok_bind, hsg]; exact e)).trans ?_
    have hi : isNm w = (decide (0 < w.length) && decide (w.length < 9)) := by
      rw [Bool.eq_iff_iff, isNm_iff, Bool.and_eq_true, decide_eq_true_eq, decide_eq_true_eq]
      unfold Nm
      exact ⟨fun q => by omega, fun q => ⟨by omega, by omega, fun c hc => (mem_letters c).mp (h c hc)⟩⟩
    rw [hi]
    by_cases q1 : 0 < w.length <;> by_cases q2 : w.length < 9
    · have q2' : (w.length : Int) < 9 := by omega
      simp [hlen, q1, q2, q2']
    · have q2' : ¬ (w.length : Int) < 9 := by omega
      simp [hlen, q1, q2, q2']
    · simp [hlen, q1]
    · simp [hlen, q1]
  · have e := l2 h
    have hi : isNm w = false := by
      rw [Bool.eq_false_iff]
      intro q
      exact h fun c hc => (mem_letters c).mpr ((isNm_iff.mp q).2.2 c hc)
    rw [hi]
    unfold seqO
    simp only [List.map_cons, List.map_nil, List.cons_append, List.nil_append, un_s, un_0, forSO, rdE_0, rdE_s, R.ok_bind, hsg]
    rw [e]; rfl
theorem name_at_eq (ws : List Str) (hws : ∀ w ∈ ws, w.length ≤ 1000000) (at_ : Nat) : m_name_at [.lst (ws.map T.str), .t (.int (at_ : Int))] = match ws[at_]? with | some w => (if isNm w then .ok (.t (.str w)) else .raise 2) | none => .raise 2 := by
  have hwa := word_at_eq ws at_
  unfold m_name_at g_name_at
  rw [runDef_Rt]
  cases hw : ws[at_]? with
  | none => rw [hw] at hwa; simp [hwa, Rt]
  | some w =>
    rw [hw] at hwa
    have hwl := hws w (List.mem_of_getElem? hw)
    have hl : w.cps.toList.length = w.length := Array.length_toList
    have hlen : lenD [.t (.str w)] = .ok (.t (.int w.length)) := by simp only [lenD]; rw [if_pos (by omega)]
    have hsg : signs w = w.cps.toList.map fun c => T.str ⟨#[c]⟩ := rfl
    have e1 : (w = ("" : Str)) ↔ w.cps.toList = [] := by
      rw [empty_eq]
      exact ⟨fun e => by rw [e, sl_cps], fun e => by rw [sl_of w, e]⟩
    refine (Rt_seq (by simp [hwa]; rfl)).trans ?_
    by_cases h1 : w.cps.toList = []
    · have hi : isNm w = false := by
        rw [Bool.eq_false_iff]; intro q
        have := (isNm_iff.mp q).1
        rw [h1] at this; simp at this
      have hw0 := e1.mpr h1
      subst hw0
      simp [hi, Rt]
    have g1 : ¬ w = ("" : Str) := fun e => h1 (e1.mp e)
    by_cases h2 : 8 < w.length
    · have hi : isNm w = false := by
        rw [Bool.eq_false_iff]; intro q
        have := (isNm_iff.mp q).2.1
        omega
      have h2i : (8 : Int) < (w.length : Int) := by omega
      simp [g1, hlen, h2i, h2, hi, Rt]
    have h2i : ¬ (8 : Int) < (w.length : Int) := by omega
    refine (Rt_seq (by simp [g1, hlen, h2i, h2]; rfl)).trans ?_
    obtain ⟨l1, l2⟩ := sign_loop 3 "abcdefghijklmnopqrstuvwxyz" (raiseO 2) (.raise 2) (fun _ => rfl) (.inr rfl) w.cps.toList [.d (.lst (ws.map T.str)) false, .d (.t (.int (at_ : Int))) false, .d (.t (.str w)) true, .un] (by simp)
    have hgl : (ifO (tV (b2 ninD (rdE 3) gl_LETTERS)) (raiseO 2) nxO) = (ifO (tV (b2 ninD (rdE 3) (kS "abcdefghijklmnopqrstuvwxyz"))) (raiseO 2) nxO) := rfl
    by_cases h : ∀ c ∈ w.cps.toList, c ∈ (("abcdefghijklmnopqrstuvwxyz" : Str)).cps.toList
    · obtain ⟨k, e⟩ := l1 h
      have hi : isNm w = true := isNm_iff.mpr ⟨by have := List.length_pos_iff.mpr h1; omega, by omega, fun c hc => (mem_letters c).mp (h c hc)⟩
      refine (Rt_seq (by rw [hgl]; simp only [forSO, rdE_0, rdE_s, R.ok_bind, hsg]; exact e)).trans ?_
      simp [hi, retN]
    · have e := l2 h
      have hi : isNm w = false := by
        rw [Bool.eq_false_iff]
        intro q
        exact h fun c hc => (mem_letters c).mpr ((isNm_iff.mp q).2.2 c hc)
      show Rt _ = if isNm w = true then R.ok (D.t (T.str w)) else R.raise 2
      rw [hi, hgl]
      unfold seqO
      simp only [forSO, rdE_0, rdE_s, R.ok_bind, hsg]
      rw [e]; rfl
theorem number_at_eq (ws : List Str) (hws : ∀ w ∈ ws, w.length ≤ 1000000) (at_ : Nat) : m_number_at [.lst (ws.map T.str), .t (.int (at_ : Int))] = match ws[at_]? with | some w => (match num w with | some n => .ok (.t (.int n)) | none => .raise 2) | none => .raise 2 := by
  have hwa := word_at_eq ws at_
  unfold m_number_at g_number_at
  rw [runDef_Rt]
  cases hw0 : ws[at_]? with
  | none => rw [hw0] at hwa; simp [hwa, Rt]
  | some w =>
    rw [hw0] at hwa
    have hw := hws w (List.mem_of_getElem? hw0)
    have hl : w.cps.toList.length = w.length := Array.length_toList
    have hws : w = sl w.cps.toList := sl_of w
    refine (Rt_seq (by simp [hwa]; rfl)).trans ?_
    refine (Rt_seq (by simp; rfl)).trans ?_
    generalize (.d (.lst (ws.map T.str)) false : Sl) = a0
    generalize (.d (.t (.int (at_ : Int))) false : Sl) = a1
    show Rt _ = match num w with | some n => .ok (.t (.int n)) | none => .raise 2
    generalize hL : w.cps.toList = l at hl hws
    have ht := take_sl l 1 (by omega)
    have hd1 := drop_sl l 1 (by omega)
    have hm : (sl (l.take 1) = sl [45]) ↔ l.take 1 = [45] := sl_inj
    have s1 : (ifO (tV (b2 eqD (sl3 (rdE 2) sN (sS (kI 1))) (kS "-"))) (setO 3 (sl3 (rdE 2) (sS (kI 1)) sN)) nxO) [a0, a1, .d (.t (.str w)) true, .d (.t (.str w)) true, .un] = .ok (.nx [a0, a1, .d (.t (.str w)) true, .d (.t (.str (sl (bodyL l)))) true, .un]) := by
      rw [hws, minus_eq]
      have h1 : ((1 : Nat) : Int) = 1 := rfl
      rw [h1] at ht hd1
      unfold bodyL
      by_cases q : l.take 1 = [45]
      · rw [if_pos q]
        have q2 := hm.mpr q
        simp [ht, q2, hd1]
      · rw [if_neg q]
        have q2 : ¬ sl (l.take 1) = sl [45] := fun e => q (hm.mp e)
        simp [ht, q2]
    refine (Rt_seq s1).trans ?_
    have hbl : (bodyL l).length ≤ 1000000 := by
      unfold bodyL
      split
      · rw [List.length_drop]; omega
      · omega
    have e1 : (sl (bodyL l) = ("" : Str)) ↔ bodyL l = [] := by rw [empty_eq]; exact sl_inj
    have e2 : (w = ("-0" : Str)) ↔ l = [45, 48] := by rw [hws, mnull_eq]; exact sl_inj
    have hlen : lenD [.t (.str (sl (bodyL l)))] = .ok (.t (.int (bodyL l).length)) := by simp only [lenD, sl_len]; rw [if_pos (by omega)]
    have hmf : ∀ ρ : Ev, gl_MOST_FIGURES ρ = .ok (.t (.int 60)) := fun _ => rfl
    obtain ⟨l1, l2⟩ := sign_loop 4 "0123456789" (raiseO 2) (.raise 2) (fun _ => rfl) (.inr rfl) (bodyL l) [a0, a1, .d (.t (.str w)) true, .d (.t (.str (sl (bodyL l)))) true, .un] (by simp)
    by_cases h1 : bodyL l = []
    · have g1 := e1.mpr h1
      rw [num_none (w := w) (by rw [hL]; exact fun q => q.1 h1)]
      simp [g1, Rt]
    have g1 : ¬ sl (bodyL l) = ("" : Str) := fun e => h1 (e1.mp e)
    by_cases h2 : 60 < (bodyL l).length
    · have h2i : (60 : Int) < ((bodyL l).length : Int) := by omega
      rw [num_none (w := w) (by rw [hL]; exact fun q => by have := q.2.1; omega)]
      simp [g1, hlen, h2, h2i, hmf, Rt]
    have h2i : ¬ (60 : Int) < ((bodyL l).length : Int) := by omega
    by_cases h3 : l = [45, 48]
    · have g2 := e2.mpr h3
      rw [num_none (w := w) (by rw [hL]; exact fun q => q.2.2.1 h3)]
      simp [g1, g2, hlen, h2, h2i, hmf, Rt]
    have g2 : ¬ w = ("-0" : Str) := fun e => h3 (e2.mp e)
    obtain ⟨c, r, hb⟩ := head_b h1
    have hix : ixD (.t (.str (sl (bodyL l)))) (.t (.int 0)) = .ok (.t (.str (sl [c]))) := by
      simp only [ixD, sl_len, sl_cps]; rw [if_pos (by omega), hb, atI_pos _ (by decide)]; rfl
    have hc0 : (sl [c] = ("0" : Str)) ↔ c = 48 := by rw [null_eq, sl_inj]; simp
    refine (Rt_seq (by simp [g1, g2, hlen, h2, h2i, hmf]; rfl)).trans ?_
    by_cases h4 : c = 48 ∧ 1 < (bodyL l).length
    · have q2 := hc0.mpr h4.1
      have g4 := h4.2
      have g4i : (1 : Int) < ((bodyL l).length : Int) := by omega
      rw [num_none (w := w) (by rw [hL]; exact fun q => q.2.2.2.1 ⟨by rw [hb, h4.1]; rfl, h4.2⟩)]
      simp [hlen, hix, q2, g4, g4i, Rt]
    have s2 : (ifO (tAnd2 (tV (b2 eqD (b2 ixD (rdE 3) (kI 0)) (kS "0"))) (tV (b2 gtD (ap lenD (cA (rdE 3) nA)) (kI 1)))) (raiseO 2) nxO) [a0, a1, .d (.t (.str w)) true, .d (.t (.str (sl (bodyL l)))) true, .un] = .ok (.nx [a0, a1, .d (.t (.str w)) true, .d (.t (.str (sl (bodyL l)))) true, .un]) := by
      by_cases q : c = 48
      · have g4' : ¬ (1 < (bodyL l).length) := fun e => h4 ⟨q, e⟩
        have g4i : ¬ ((1 : Int) < ((bodyL l).length : Int)) := by omega
        have q2 := hc0.mpr q
        simp [hlen, hix, q2, g4', g4i]
      · have q2 : ¬ sl [c] = ("0" : Str) := fun e => q (hc0.mp e)
        simp [hlen, hix, q2]
    refine (Rt_seq s2).trans ?_
    by_cases h5 : ∀ d ∈ bodyL l, d ∈ (("0123456789" : Str)).cps.toList
    · obtain ⟨n, hn, hn2, hw61⟩ := num_some (w := w) (by rw [hL]; exact ⟨h1, by omega, h3, fun ⟨a, b⟩ => h4 ⟨by rw [hb] at a; simpa using a, b⟩, fun d hd => (mem_digits d).mp (h5 d hd)⟩)
      rw [hn2]
      have hint : intSD [.t (.str w)] = .ok (.t (.int n)) := by simp only [intSD, hn]; rw [if_pos (by omega)]
      obtain ⟨k, e⟩ := l1 h5
      refine (Rt_seq (by simp only [forSO, rdE_0, rdE_s, R.ok_bind, signs_sl]; exact e)).trans ?_
      simp [hint]
    · rw [num_none (w := w) (by rw [hL]; exact fun q => h5 fun d hd => (mem_digits d).mpr (q.2.2.2.2 d hd))]
      have e := l2 h5
      unfold seqO
      simp only [forSO, rdE_0, rdE_s, R.ok_bind, signs_sl]
      rw [e]; rfl
end Pf

set_option Elab.async false
set_option linter.all false
set_option maxRecDepth 100000
set_option maxHeartbeats 4000000
namespace Pf
open PySem L2
/-! ## sums of a note -/
theorem semi_eq : (";" : Str) = sl [59] := by decide +kernel
/-- the last name stands ahead of this one -/
def okn (acc : Prs) (nm : Str) : Bool := match acc.getLast? with | none => true | some p => !leS nm p.1
noncomputable def prsS : Prs → List Str → Option (Prs × List Str)
  | acc, [] => none
  | acc, [w] => if w = ";" then some (acc, []) else none
  | acc, w :: nm :: r => if w = ";" then some (acc, nm :: r) else match num w with
    | none => none
    | some by_ => if by_ ≠ 0 ∧ isNm nm = true ∧ okn acc nm = true then prsS (acc ++ [(nm, by_)]) r else none
noncomputable def sumS : List Str → Option ((Int × Prs) × List Str)
  | [] => none
  | w :: r => match num w with
    | none => none
    | some n => match prsS [] r with
      | none => none
      | some (ps, r') => some ((n, ps), r')
theorem prsS_suf : ∀ (acc : Prs) (r : List Str) (ps : Prs) (r' : List Str), prsS acc r = some (ps, r') → ∃ q, r = q ++ (";" : Str) :: r'
  | acc, [], ps, r', h => by simp [prsS] at h
  | acc, [w], ps, r', h => by
    unfold prsS at h
    split at h
    · rename_i e; simp at h; exact ⟨[], by simp [e, h.2]⟩
    · cases h
  | acc, w :: nm :: r, ps, r', h => by
    unfold prsS at h
    split at h
    · rename_i e; simp at h; exact ⟨[], by simp [e, h.2]⟩
    · split at h
      · cases h
      · split at h
        · obtain ⟨q, e⟩ := prsS_suf _ _ _ _ h
          exact ⟨w :: nm :: q, by rw [e]; rfl⟩
        · cases h
theorem prsS_nm : ∀ (acc : Prs) (r : List Str) (ps : Prs) (r' : List Str), (∀ p ∈ acc, Nm p.1) → prsS acc r = some (ps, r') → ∀ p ∈ ps, Nm p.1
  | acc, [], ps, r', _, h => by simp [prsS] at h
  | acc, [w], ps, r', ha, h => by
    unfold prsS at h
    split at h
    · simp at h; rw [← h.1]; exact ha
    · cases h
  | acc, w :: nm :: r, ps, r', ha, h => by
    unfold prsS at h
    split at h
    · simp at h; rw [← h.1]; exact ha
    · split at h
      · cases h
      · split at h
        · rename_i c
          refine prsS_nm _ _ _ _ (fun p hp => ?_) h
          rcases List.mem_append.mp hp with q | q
          · exact ha p q
          · simp at q; rw [q]; exact isNm_iff.mp c.2.1
        · cases h
theorem lay_prs' : ∀ ps : Prs, (∀ p ∈ ps, Nm p.1) → PyData.canLayAll0 (toPys (ps.map prT)) = true ∧ PyData.depthAll (toPys (ps.map prT)) ≤ 3
  | [], _ => by simp [toPys, PyData.canLayAll0, PyData.depthAll]
  | p :: ps, h => by
    obtain ⟨i1, i2⟩ := lay_prs' ps fun q hq => h q (List.mem_cons_of_mem _ hq)
    simp only [List.map_cons, prT, toPys, toPy, PyData.canLayAll0, PyData.canLay0, PyData.depthAll, PyData.depth, strOk_nm (h p (by simp)), i1, Bool.and_self, true_and]
    omega
theorem ne_prsl (ps : Prs) (h : ∀ p ∈ ps, Nm p.1) : neD (.lst (ps.map prT)) (.lst []) = .ok (.t (.bl (!decide (ps = [])))) := by
  obtain ⟨i1, i2⟩ := lay_prs' ps h
  have h1 : SeqAt.shaped (.list (toPys (ps.map prT))) = true := by
    unfold SeqAt.shaped
    have e1 : PyData.canLay0 (.list (toPys (ps.map prT))) = true := i1
    have e2 : PyData.depth (.list (toPys (ps.map prT))) ≤ 64 := by simp only [PyData.depth]; omega
    rw [e1, decide_eq_true e2]; rfl
  have h2 : SeqAt.shaped (.list (toPys [])) = true := by rfl
  simp only [neD, eqB, h1, h2, Bool.and_self, if_true]
  cases ps <;> simp [toPys, PyData.eqv, PyData.eqvAll]
theorem atI_last {α : Type} (xs : List α) (x : α) : atI (xs ++ [x]) (-1) = some x := by
  unfold atI ixN
  rw [if_neg (by decide), if_pos (by simp; omega)]
  have e : (-1 + ((xs ++ [x]).length : Int)).toNat = xs.length := by simp; omega
  simp only [Option.bind_some, e]
  simp
/-- the test of a pair's number and name -/
theorem part_bad (acc : Prs) (ha : ∀ p ∈ acc, Nm p.1) (nm : Str) (by_ : Int) (fb fn fl : Ev → R D) (ρ : Ev) (h1 : fb ρ = .ok (.t (.int by_))) (h2 : fn ρ = .ok (.t (.str nm))) (h3 : fl ρ = .ok (.lst (acc.map prT))) :
    tAnd2 (tV (b2 neD fl (ap mkLst nA))) (tV (b2 leD fn (b2 ixD (b2 ixD fl (u1 negD (kI 1))) (kI 0)))) ρ = .ok (!okn acc nm) := by
  have hn := ne_prsl acc ha
  rcases List.eq_nil_or_concat acc with rfl | ⟨q, p, rfl⟩
  · simp [okn, h3] at hn ⊢
    simp [hn]
  · rw [List.concat_eq_append] at hn h3 ⊢
    have hne : ¬ (q ++ [p] = []) := by simp
    rw [decide_eq_false hne] at hn
    have hat := atI_last (q.map prT) (prT p)
    have ho : okn (q ++ [p]) nm = !leS nm p.1 := by unfold okn; simp
    rw [ho]
    simp only [List.map_append, List.map_cons, List.map_nil] at hn h3
    simp [h2, h3, hn, hat]
    simp [prT, leD, leS]
theorem word_at' {ws : List Str} {at_ : Nat} {w : Str} (h : ws[at_]? = some w) : m_word_at [.lst (ws.map T.str), .t (.int (at_ : Int))] = .ok (.t (.str w)) := by rw [word_at_eq, h]
theorem word_no {ws : List Str} {at_ : Nat} (h : ws[at_]? = none) : m_word_at [.lst (ws.map T.str), .t (.int (at_ : Int))] = .raise 2 := by rw [word_at_eq, h]
theorem num_at' {ws : List Str} {at_ : Nat} {w : Str} (hws : ∀ w ∈ ws, w.length ≤ 1000000) (h : ws[at_]? = some w) {n : Int} (hn : num w = some n) : m_number_at [.lst (ws.map T.str), .t (.int (at_ : Int))] = .ok (.t (.int n)) := by
  rw [number_at_eq ws hws, h]; simp only [hn]
theorem num_no {ws : List Str} {at_ : Nat} {w : Str} (hws : ∀ w ∈ ws, w.length ≤ 1000000) (h : ws[at_]? = some w) (hn : num w = none) : m_number_at [.lst (ws.map T.str), .t (.int (at_ : Int))] = .raise 2 := by
  rw [number_at_eq ws hws, h]; simp only [hn]
theorem num_end {ws : List Str} {at_ : Nat} (hws : ∀ w ∈ ws, w.length ≤ 1000000) (h : ws[at_]? = none) : m_number_at [.lst (ws.map T.str), .t (.int (at_ : Int))] = .raise 2 := by
  rw [number_at_eq ws hws, h]
theorem nam_at' {ws : List Str} {at_ : Nat} {w : Str} (hws : ∀ w ∈ ws, w.length ≤ 1000000) (h : ws[at_]? = some w) (hn : isNm w = true) : m_name_at [.lst (ws.map T.str), .t (.int (at_ : Int))] = .ok (.t (.str w)) := by
  rw [name_at_eq ws hws, h]; simp only [hn, if_true]
theorem nam_no {ws : List Str} {at_ : Nat} {w : Str} (hws : ∀ w ∈ ws, w.length ≤ 1000000) (h : ws[at_]? = some w) (hn : ¬ isNm w = true) : m_name_at [.lst (ws.map T.str), .t (.int (at_ : Int))] = .raise 2 := by
  rw [name_at_eq ws hws, h]; simp only [hn, if_false]; rfl
theorem nam_end {ws : List Str} {at_ : Nat} (hws : ∀ w ∈ ws, w.length ≤ 1000000) (h : ws[at_]? = none) : m_name_at [.lst (ws.map T.str), .t (.int (at_ : Int))] = .raise 2 := by
  rw [name_at_eq ws hws, h]
theorem sum_at_loop (ws : List Str) (hws : ∀ w ∈ ws, w.length ≤ 1000000) (hwl : ws.length ≤ 1000000) (a2 : Sl) : ∀ (fuel : Nat) (r : List Str) (acc : Prs) (at_ : Nat) (k4 k5 : Sl), ws.drop at_ = r → at_ ≤ ws.length → r.length < fuel → (∀ p ∈ acc, Nm p.1) → acc.length ≤ at_ →
    match prsS acc r with
    | some (ps, r') => ∃ k4' k5' : Sl, whR (tV (b2 neD (ap m_word_at (cA (rdE 0) (cA (rdE 1) nA))) (kS ";"))) (seqO (setO 4 (ap m_number_at (cA (rdE 0) (cA (rdE 1) nA))))
    (seqO (setO 5 (ap m_name_at (cA (rdE 0) (cA (b2 addD (rdE 1) (kI 1)) nA))))
    (seqO (ifO (tOr2 (tV (b2 eqD (rdE 4) (kI 0))) (tAnd2 (tV (b2 neD (rdE 3) (ap mkLst nA))) (tV (b2 leD (rdE 5) (b2 ixD (b2 ixD (rdE 3) (u1 negD (kI 1))) (kI 0)))))) (raiseO 2) nxO)
    (seqO (appO 3 (ap mkTup (cA (rdE 5) (cA (rdE 4) nA))))
    (setO 1 (b2 addD (rdE 1) (kI 2))))))) fuel [.d (.lst (ws.map T.str)) false, .d (.t (.int (at_ : Int))) true, a2, .d (.lst (acc.map prT)) true, k4, k5] = .ok (.nx [.d (.lst (ws.map T.str)) false, .d (.t (.int ((ws.length - r'.length - 1 : Nat) : Int))) true, a2, .d (.lst (ps.map prT)) true, k4', k5'])
    | none => whR (tV (b2 neD (ap m_word_at (cA (rdE 0) (cA (rdE 1) nA))) (kS ";"))) (seqO (setO 4 (ap m_number_at (cA (rdE 0) (cA (rdE 1) nA))))
    (seqO (setO 5 (ap m_name_at (cA (rdE 0) (cA (b2 addD (rdE 1) (kI 1)) nA))))
    (seqO (ifO (tOr2 (tV (b2 eqD (rdE 4) (kI 0))) (tAnd2 (tV (b2 neD (rdE 3) (ap mkLst nA))) (tV (b2 leD (rdE 5) (b2 ixD (b2 ixD (rdE 3) (u1 negD (kI 1))) (kI 0)))))) (raiseO 2) nxO)
    (seqO (appO 3 (ap mkTup (cA (rdE 5) (cA (rdE 4) nA))))
    (setO 1 (b2 addD (rdE 1) (kI 2))))))) fuel [.d (.lst (ws.map T.str)) false, .d (.t (.int (at_ : Int))) true, a2, .d (.lst (acc.map prT)) true, k4, k5] = .raise 2
  | 0, r, acc, at_, k4, k5, _, _, h, _, _ => by omega
  | fuel + 1, [], acc, at_, k4, k5, h1, h2, _, _, _ => by
    have hn : ws[at_]? = none := by
      rw [List.getElem?_eq_none_iff]
      exact List.drop_eq_nil_iff.mp h1
    have hwa := word_no hn
    simp only [prsS]
    unfold whR
    simp [hwa]
  | fuel + 1, [w], acc, at_, k4, k5, h1, h2, _, ha, _ => by
    have g0 : ws[at_]? = some w := by
      have := congrArg (fun l => l[0]?) h1
      simpa [List.getElem?_drop] using this
    have hlen : ws.length = at_ + 1 := by
      have := congrArg List.length h1
      simp at this; omega
    have g1 : ws[at_ + 1]? = none := by rw [List.getElem?_eq_none_iff]; omega
    have hwa := word_at' g0
    have hnm := nam_end hws g1
    have hcast : ((at_ + 1 : Nat) : Int) = (at_ : Int) + 1 := by omega
    rw [hcast] at hnm
    by_cases hs : w = ";"
    · have hp : prsS acc [w] = some (acc, []) := by unfold prsS; rw [if_pos hs]
      rw [hp]
      refine ⟨k4, k5, ?_⟩
      have e : ws.length - ([] : List Str).length - 1 = at_ := by rw [hlen]; simp
      rw [e]
      unfold whR
      simp [hwa, hs]
    · have hp : prsS acc [w] = none := by unfold prsS; rw [if_neg hs]
      rw [hp]
      show whR _ _ _ _ = _
      unfold whR
      cases hnum : num w with
      | none => have hna := num_no hws g0 hnum; simp [hwa, hs, hna]
      | some by_ => have hna := num_at' hws g0 hnum; simp [hwa, hs, hna, hnm]
  | fuel + 1, w :: nm :: r, acc, at_, k4, k5, h1, h2, hf, ha, hal => by
    have g0 : ws[at_]? = some w := by
      have := congrArg (fun l => l[0]?) h1
      simpa [List.getElem?_drop] using this
    have g1 : ws[at_ + 1]? = some nm := by
      have := congrArg (fun l => l[1]?) h1
      simpa [List.getElem?_drop] using this
    have hlen : ws.length = at_ + 2 + r.length := by
      have := congrArg List.length h1
      simp at this; omega
    have hwa := word_at' g0
    have hcast : ((at_ + 1 : Nat) : Int) = (at_ : Int) + 1 := by omega
    by_cases hs : w = ";"
    · have hp : prsS acc (w :: nm :: r) = some (acc, nm :: r) := by unfold prsS; rw [if_pos hs]
      rw [hp]
      refine ⟨k4, k5, ?_⟩
      have e : ws.length - (nm :: r).length - 1 = at_ := by rw [hlen]; simp; omega
      rw [e]
      unfold whR
      simp [hwa, hs]
    cases hnum : num w with
    | none =>
      have hp : prsS acc (w :: nm :: r) = none := by unfold prsS; rw [if_neg hs, hnum]
      rw [hp]
      have hna := num_no hws g0 hnum
      show whR _ _ _ _ = _
      unfold whR
      simp [hwa, hs, hna]
    | some by_ =>
      have hna := num_at' hws g0 hnum
      have hp0 : prsS acc (w :: nm :: r) = if by_ ≠ 0 ∧ isNm nm = true ∧ okn acc nm = true then prsS (acc ++ [(nm, by_)]) r else none := by
        conv => lhs; unfold prsS
        rw [if_neg hs, hnum]
      by_cases hi : isNm nm = true
      · have hnm := nam_at' hws g1 hi
        rw [hcast] at hnm
        have hbad := part_bad acc ha nm by_ (rdE 4) (rdE 5) (rdE 3) [.d (.lst (ws.map T.str)) false, .d (.t (.int (at_ : Int))) true, a2, .d (.lst (acc.map prT)) true, .d (.t (.int by_)) true, .d (.t (.str nm)) true] rfl rfl rfl
        by_cases hc : by_ ≠ 0 ∧ okn acc nm = true
        · rw [if_pos ⟨hc.1, hi, hc.2⟩] at hp0
          rw [hp0]
          have h1' : ws.drop (at_ + 2) = r := by
            have := congrArg (List.drop 2) h1
            rw [List.drop_drop] at this
            rw [Nat.add_comm at_ 2] at *
            simpa using this
          have ih := sum_at_loop ws hws hwl a2 fuel r (acc ++ [(nm, by_)]) (at_ + 2) (.d (.t (.int by_)) true) (.d (.t (.str nm)) true) h1' (by omega) (by simp at hf; omega) (fun p hp => by
            rcases List.mem_append.mp hp with q | q
            · exact ha p q
            · simp at q; rw [q]; exact isNm_iff.mp hi) (by simp; omega)
          have hcast2 : ((at_ + 2 : Nat) : Int) = (at_ : Int) + 2 := by omega
          have hal2 : acc.length < 16777216 := by omega
          have hmap : (acc ++ [(nm, by_)]).map prT = acc.map prT ++ [.tup [.str nm, .int by_]] := by simp [prT]
          rw [hcast2, hmap] at ih
          have step : ∀ Z : R Out, (whR (tV (b2 neD (ap m_word_at (cA (rdE 0) (cA (rdE 1) nA))) (kS ";"))) (seqO (setO 4 (ap m_number_at (cA (rdE 0) (cA (rdE 1) nA))))
    (seqO (setO 5 (ap m_name_at (cA (rdE 0) (cA (b2 addD (rdE 1) (kI 1)) nA))))
    (seqO (ifO (tOr2 (tV (b2 eqD (rdE 4) (kI 0))) (tAnd2 (tV (b2 neD (rdE 3) (ap mkLst nA))) (tV (b2 leD (rdE 5) (b2 ixD (b2 ixD (rdE 3) (u1 negD (kI 1))) (kI 0)))))) (raiseO 2) nxO)
    (seqO (appO 3 (ap mkTup (cA (rdE 5) (cA (rdE 4) nA))))
    (setO 1 (b2 addD (rdE 1) (kI 2))))))) fuel [.d (.lst (ws.map T.str)) false, .d (.t (.int ((at_ : Int) + 2))) true, a2, .d (.lst (acc.map prT ++ [.tup [.str nm, .int by_]])) true, .d (.t (.int by_)) true, .d (.t (.str nm)) true] = Z) → whR (tV (b2 neD (ap m_word_at (cA (rdE 0) (cA (rdE 1) nA))) (kS ";"))) (seqO (setO 4 (ap m_number_at (cA (rdE 0) (cA (rdE 1) nA))))
    (seqO (setO 5 (ap m_name_at (cA (rdE 0) (cA (b2 addD (rdE 1) (kI 1)) nA))))
    (seqO (ifO (tOr2 (tV (b2 eqD (rdE 4) (kI 0))) (tAnd2 (tV (b2 neD (rdE 3) (ap mkLst nA))) (tV (b2 leD (rdE 5) (b2 ixD (b2 ixD (rdE 3) (u1 negD (kI 1))) (kI 0)))))) (raiseO 2) nxO)
    (seqO (appO 3 (ap mkTup (cA (rdE 5) (cA (rdE 4) nA))))
    (setO 1 (b2 addD (rdE 1) (kI 2))))))) (fuel + 1) [.d (.lst (ws.map T.str)) false, .d (.t (.int (at_ : Int))) true, a2, .d (.lst (acc.map prT)) true, k4, k5] = Z := by
            intro Z e
            have hbad' : (ifO (tOr2 (tV (b2 eqD (rdE 4) (kI 0))) (tAnd2 (tV (b2 neD (rdE 3) (ap mkLst nA))) (tV (b2 leD (rdE 5) (b2 ixD (b2 ixD (rdE 3) (u1 negD (kI 1))) (kI 0)))))) (raiseO 2) nxO) [.d (.lst (ws.map T.str)) false, .d (.t (.int (at_ : Int))) true, a2, .d (.lst (acc.map prT)) true, .d (.t (.int by_)) true, .d (.t (.str nm)) true] = .ok (.nx [.d (.lst (ws.map T.str)) false, .d (.t (.int (at_ : Int))) true, a2, .d (.lst (acc.map prT)) true, .d (.t (.int by_)) true, .d (.t (.str nm)) true]) := by
              unfold ifO tOr2
              rw [hbad]
              simp [hc.1, hc.2, orR]
            unfold whR
            have hcond : tV (b2 neD (ap m_word_at (cA (rdE 0) (cA (rdE 1) nA))) (kS ";")) [.d (.lst (ws.map T.str)) false, .d (.t (.int (at_ : Int))) true, a2, .d (.lst (acc.map prT)) true, k4, k5] = .ok true := by simp [hwa, hs]
            rw [hcond]
            simp only [R.ok_bind, if_true]
            rw [seqO]
            have q1 : (setO 4 (ap m_number_at (cA (rdE 0) (cA (rdE 1) nA)))) [.d (.lst (ws.map T.str)) false, .d (.t (.int (at_ : Int))) true, a2, .d (.lst (acc.map prT)) true, k4, k5] = .ok (.nx [.d (.lst (ws.map T.str)) false, .d (.t (.int (at_ : Int))) true, a2, .d (.lst (acc.map prT)) true, .d (.t (.int by_)) true, k5]) := by simp [hna]
            rw [q1]
            simp only [R.ok_bind]
            rw [seqO]
            have q2 : (setO 5 (ap m_name_at (cA (rdE 0) (cA (b2 addD (rdE 1) (kI 1)) nA)))) [.d (.lst (ws.map T.str)) false, .d (.t (.int (at_ : Int))) true, a2, .d (.lst (acc.map prT)) true, .d (.t (.int by_)) true, k5] = .ok (.nx [.d (.lst (ws.map T.str)) false, .d (.t (.int (at_ : Int))) true, a2, .d (.lst (acc.map prT)) true, .d (.t (.int by_)) true, .d (.t (.str nm)) true]) := by simp [hnm]
            rw [q2]
            simp only [R.ok_bind]
            rw [seqO, hbad']
            simp only [R.ok_bind]
            have q3 : (appO 3 (ap mkTup (cA (rdE 5) (cA (rdE 4) nA)))) [.d (.lst (ws.map T.str)) false, .d (.t (.int (at_ : Int))) true, a2, .d (.lst (acc.map prT)) true, .d (.t (.int by_)) true, .d (.t (.str nm)) true] = .ok (.nx [.d (.lst (ws.map T.str)) false, .d (.t (.int (at_ : Int))) true, a2, .d (.lst (acc.map prT ++ [.tup [.str nm, .int by_]])) true, .d (.t (.int by_)) true, .d (.t (.str nm)) true]) := by simp [appO, hal2]
            rw [seqO, q3]
            simp only [R.ok_bind]
            exact e
          cases hr : prsS (acc ++ [(nm, by_)]) r with
          | none => rw [hr] at ih; exact step _ ih
          | some v =>
            obtain ⟨ps, r'⟩ := v
            rw [hr] at ih
            obtain ⟨k4', k5', e⟩ := ih
            exact ⟨k4', k5', step _ e⟩
        · rw [if_neg (fun q => hc ⟨q.1, q.2.2⟩)] at hp0
          rw [hp0]
          show whR _ _ _ _ = _
          have hbad' : (ifO (tOr2 (tV (b2 eqD (rdE 4) (kI 0))) (tAnd2 (tV (b2 neD (rdE 3) (ap mkLst nA))) (tV (b2 leD (rdE 5) (b2 ixD (b2 ixD (rdE 3) (u1 negD (kI 1))) (kI 0)))))) (raiseO 2) nxO) [.d (.lst (ws.map T.str)) false, .d (.t (.int (at_ : Int))) true, a2, .d (.lst (acc.map prT)) true, .d (.t (.int by_)) true, .d (.t (.str nm)) true] = .raise 2 := by
            unfold ifO tOr2
            rw [hbad]
            by_cases h0 : by_ = 0
            · simp [h0, orR]
            · have ho : okn acc nm = false := by
                rw [Bool.eq_false_iff]; exact fun q => hc ⟨h0, q⟩
              simp [h0, ho, orR]
          unfold whR
          have hcond : tV (b2 neD (ap m_word_at (cA (rdE 0) (cA (rdE 1) nA))) (kS ";")) [.d (.lst (ws.map T.str)) false, .d (.t (.int (at_ : Int))) true, a2, .d (.lst (acc.map prT)) true, k4, k5] = .ok true := by simp [hwa, hs]
          rw [hcond]
          simp only [R.ok_bind, if_true]
          rw [seqO]
          have q1 : (setO 4 (ap m_number_at (cA (rdE 0) (cA (rdE 1) nA)))) [.d (.lst (ws.map T.str)) false, .d (.t (.int (at_ : Int))) true, a2, .d (.lst (acc.map prT)) true, k4, k5] = .ok (.nx [.d (.lst (ws.map T.str)) false, .d (.t (.int (at_ : Int))) true, a2, .d (.lst (acc.map prT)) true, .d (.t (.int by_)) true, k5]) := by simp [hna]
          rw [q1]
          simp only [R.ok_bind]
          rw [seqO]
          have q2 : (setO 5 (ap m_name_at (cA (rdE 0) (cA (b2 addD (rdE 1) (kI 1)) nA)))) [.d (.lst (ws.map T.str)) false, .d (.t (.int (at_ : Int))) true, a2, .d (.lst (acc.map prT)) true, .d (.t (.int by_)) true, k5] = .ok (.nx [.d (.lst (ws.map T.str)) false, .d (.t (.int (at_ : Int))) true, a2, .d (.lst (acc.map prT)) true, .d (.t (.int by_)) true, .d (.t (.str nm)) true]) := by simp [hnm]
          rw [q2]
          simp only [R.ok_bind]
          rw [seqO, hbad']
          rfl
      · have hnm := nam_no hws g1 hi
        rw [hcast] at hnm
        rw [if_neg (fun q => hi q.2.1)] at hp0
        rw [hp0]
        show whR _ _ _ _ = _
        unfold whR
        simp [hwa, hs, hna, hnm]
end Pf

set_option Elab.async false
set_option linter.all false
set_option maxRecDepth 100000
set_option maxHeartbeats 4000000
namespace Pf
open PySem L2
theorem drop_ln (xs : List T) (k : Nat) : slD (.lst xs) (some (k : Int)) none = .ok (.lst (xs.drop k)) := by
  simp only [slD, cutT]
  rw [HT.sIx_nat, HT.sIx_none]
  by_cases h : k ≤ xs.length
  · rw [Nat.min_eq_left h, List.take_of_length_le (by simp)]
  · rw [Nat.min_eq_right (by omega), List.drop_eq_nil_of_le (Nat.le_refl _), List.drop_eq_nil_of_le (show xs.length ≤ k by omega), List.take_nil]
theorem suf_len {q r r' : List Str} {w : Str} (h : r = q ++ w :: r') : r'.length < r.length := by rw [h]; simp; omega
theorem prsS_len : ∀ (acc : Prs) (r : List Str) (ps : Prs) (r' : List Str), prsS acc r = some (ps, r') → ps.length ≤ acc.length + r.length
  | acc, [], ps, r', h => by simp [prsS] at h
  | acc, [w], ps, r', h => by
    unfold prsS at h
    split at h
    · simp at h; rw [← h.1]; omega
    · cases h
  | acc, w :: nm :: r, ps, r', h => by
    unfold prsS at h
    split at h
    · simp at h; rw [← h.1]; omega
    · split at h
      · cases h
      · split at h
        · have := prsS_len _ _ _ _ h
          simp at this ⊢; omega
        · cases h
theorem sum_at_eq (ws : List Str) (hws : ∀ w ∈ ws, w.length ≤ 1000000) (hwl : ws.length < 100000) (at_ : Nat) (hat : at_ ≤ ws.length) : m_sum_at [.lst (ws.map T.str), .t (.int (at_ : Int))] = match sumS (ws.drop at_) with
    | some ((n, ps), r') => .ok (.t (.tup [smT n ps, .int ((ws.length - r'.length : Nat) : Int)]))
    | none => .raise 2 := by
  have hcast : ((at_ + 1 : Nat) : Int) = (at_ : Int) + 1 := by omega
  unfold m_sum_at g_sum_at
  rw [runDef_Rt]
  cases hd : ws.drop at_ with
  | nil =>
    have hn : ws[at_]? = none := by
      rw [List.getElem?_eq_none_iff]
      exact List.drop_eq_nil_iff.mp hd
    have hna := num_end hws hn
    simp [sumS, hna, Rt]
  | cons w r =>
    have g0 : ws[at_]? = some w := by
      have := congrArg (fun l => l[0]?) hd
      simpa [List.getElem?_drop] using this
    have hlen : ws.length = at_ + 1 + r.length := by
      have := congrArg List.length hd
      simp at this; omega
    have hdr : ws.drop (at_ + 1) = r := by
      have := congrArg (List.drop 1) hd
      rw [List.drop_drop] at this
      simpa [Nat.add_comm] using this
    cases hnum : num w with
    | none =>
      have hna := num_no hws g0 hnum
      simp [sumS, hnum, hna, Rt]
    | some n =>
      have hna := num_at' hws g0 hnum
      have hlo := sum_at_loop ws hws (by omega) (.d (.t (.int n)) true) 100000 r [] (at_ + 1) .un .un hdr (by omega) (by omega) (by simp) (by simp)
      simp only [List.map_nil, hcast] at hlo
      simp only [List.map_cons, List.map_nil, List.cons_append, List.nil_append, un_s, un_0]
      refine (Rt_seq (by simp [hna]; rfl)).trans ?_
      refine (Rt_seq (by simp; rfl)).trans ?_
      refine (Rt_seq (by simp; rfl)).trans ?_
      simp only [sumS, hnum]
      cases hp : prsS [] r with
      | none =>
        rw [hp] at hlo
        rw [seqO, hlo]; rfl
      | some v =>
        obtain ⟨ps, r'⟩ := v
        rw [hp] at hlo
        obtain ⟨k4, k5, e⟩ := hlo
        obtain ⟨q, hq⟩ := prsS_suf _ _ _ _ hp
        have hsl := suf_len hq
        have hpl : ps.length ≤ 16777216 := by have := prsS_len _ _ _ _ hp; simp at this; omega
        refine (Rt_seq e).trans ?_
        have e2 : ((ws.length - r'.length - 1 : Nat) : Int) + 1 = ((ws.length - r'.length : Nat) : Int) := by omega
        simp [smT, e2, hpl]
theorem law_num' {w : Str} (hw : w.length ≤ 1000000) {n : Int} (hn : num w = some n) : m_law_number [.t (.str w)] = .ok (.t (.int n)) := by rw [law_number_eq w hw]; simp only [hn]
theorem law_num_no {w : Str} (hw : w.length ≤ 1000000) (hn : num w = none) : m_law_number [.t (.str w)] = .ok (.t .non) := by rw [law_number_eq w hw]; simp only [hn]
theorem isNm_empty : isNm "" = false := by
  rw [Bool.eq_false_iff]; intro q
  have := (isNm_iff.mp q).1
  rw [empty_eq, sl_cps] at this; simp at this
/-- the words with one more -/
theorem more_at (ws : List Str) (hwl : ws.length ≤ 1000000) (k : Nat) (hk : k ≤ ws.length) (f : Ev → R D) (g : Ev → R D) (ρ : Ev) (h1 : f ρ = .ok (.lst (ws.map T.str))) (h2 : g ρ = .ok (.t (.int (k : Int)))) : b2 ixD (b2 addD f (ap mkLst (cA (kS "") nA))) g ρ = .ok (.t (.str ((ws[k]?).getD ""))) := by
  have hadd : addD (.lst (ws.map T.str)) (.lst [.str ""]) = .ok (.lst (ws.map T.str ++ [.str ""])) := by
    simp only [addD]; rw [if_pos (by simp; omega)]
  have hm : mkLst [.t (.str "")] = .ok (.lst [.str ""]) := rfl
  simp only [b2, h1, h2, R.ok_bind, ap, cA, nA, kS, hm, hadd, ix_l, atI_nat]
  by_cases h : k < ws.length
  · rw [List.getElem?_append_left (by simpa using h), List.getElem?_map, List.getElem?_eq_getElem h]; rfl
  · have e : k = ws.length := by omega
    subst e
    simp
theorem sum_along_loop (ws : List Str) (hws : ∀ w ∈ ws, w.length ≤ 1000000) (hwl : ws.length ≤ 1000000) : ∀ (fuel : Nat) (r : List Str) (acc : Prs) (at_ : Nat) (k3 k4 : Sl), ws.drop at_ = r → r.length < fuel → (∀ p ∈ acc, Nm p.1) → acc.length ≤ at_ → at_ ≤ ws.length + 1 →
    match prsS acc r with
    | some (ps, r') => ∃ k3' k4' : Sl, whR (tAnd2 (tV (b2 ltD (rdE 2) (ap lenD (cA (rdE 0) nA)))) (tV (b2 neD (b2 ixD (rdE 0) (rdE 2)) (kS ";")))) (seqO (setO 3 (ap m_law_number (cA (b2 ixD (rdE 0) (rdE 2)) nA)))
    (seqO (setO 4 (b2 ixD (b2 addD (rdE 0) (ap mkLst (cA (kS "") nA))) (b2 addD (rdE 2) (kI 1))))
    (seqO (ifO (tOr2 (tV (b2 isD (rdE 3) kN)) (tOr2 (tV (b2 eqD (rdE 3) (kI 0))) (tOr2 (tNot1 (tV (ap m_law_is_name (cA (rdE 4) nA)))) (tAnd2 (tV (b2 neD (rdE 1) (ap mkLst nA))) (tV (b2 leD (rdE 4) (b2 ixD (b2 ixD (rdE 1) (u1 negD (kI 1))) (kI 0)))))))) (retO kN) nxO)
    (seqO (appO 1 (ap mkTup (cA (rdE 4) (cA (rdE 3) nA))))
    (setO 2 (b2 addD (rdE 2) (kI 2))))))) fuel [.d (.lst (ws.map T.str)) false, .d (.lst (acc.map prT)) true, .d (.t (.int (at_ : Int))) true, k3, k4] = .ok (.nx [.d (.lst (ws.map T.str)) false, .d (.lst (ps.map prT)) true, .d (.t (.int ((ws.length - r'.length - 1 : Nat) : Int))) true, k3', k4'])
    | none => (∃ (ps : Prs) (at' : Nat) (k3' k4' : Sl), ws.length ≤ at' ∧ whR (tAnd2 (tV (b2 ltD (rdE 2) (ap lenD (cA (rdE 0) nA)))) (tV (b2 neD (b2 ixD (rdE 0) (rdE 2)) (kS ";")))) (seqO (setO 3 (ap m_law_number (cA (b2 ixD (rdE 0) (rdE 2)) nA)))
    (seqO (setO 4 (b2 ixD (b2 addD (rdE 0) (ap mkLst (cA (kS "") nA))) (b2 addD (rdE 2) (kI 1))))
    (seqO (ifO (tOr2 (tV (b2 isD (rdE 3) kN)) (tOr2 (tV (b2 eqD (rdE 3) (kI 0))) (tOr2 (tNot1 (tV (ap m_law_is_name (cA (rdE 4) nA)))) (tAnd2 (tV (b2 neD (rdE 1) (ap mkLst nA))) (tV (b2 leD (rdE 4) (b2 ixD (b2 ixD (rdE 1) (u1 negD (kI 1))) (kI 0)))))))) (retO kN) nxO)
    (seqO (appO 1 (ap mkTup (cA (rdE 4) (cA (rdE 3) nA))))
    (setO 2 (b2 addD (rdE 2) (kI 2))))))) fuel [.d (.lst (ws.map T.str)) false, .d (.lst (acc.map prT)) true, .d (.t (.int (at_ : Int))) true, k3, k4] = .ok (.nx [.d (.lst (ws.map T.str)) false, .d (.lst (ps.map prT)) true, .d (.t (.int (at' : Int))) true, k3', k4'])) ∨ whR (tAnd2 (tV (b2 ltD (rdE 2) (ap lenD (cA (rdE 0) nA)))) (tV (b2 neD (b2 ixD (rdE 0) (rdE 2)) (kS ";")))) (seqO (setO 3 (ap m_law_number (cA (b2 ixD (rdE 0) (rdE 2)) nA)))
    (seqO (setO 4 (b2 ixD (b2 addD (rdE 0) (ap mkLst (cA (kS "") nA))) (b2 addD (rdE 2) (kI 1))))
    (seqO (ifO (tOr2 (tV (b2 isD (rdE 3) kN)) (tOr2 (tV (b2 eqD (rdE 3) (kI 0))) (tOr2 (tNot1 (tV (ap m_law_is_name (cA (rdE 4) nA)))) (tAnd2 (tV (b2 neD (rdE 1) (ap mkLst nA))) (tV (b2 leD (rdE 4) (b2 ixD (b2 ixD (rdE 1) (u1 negD (kI 1))) (kI 0)))))))) (retO kN) nxO)
    (seqO (appO 1 (ap mkTup (cA (rdE 4) (cA (rdE 3) nA))))
    (setO 2 (b2 addD (rdE 2) (kI 2))))))) fuel [.d (.lst (ws.map T.str)) false, .d (.lst (acc.map prT)) true, .d (.t (.int (at_ : Int))) true, k3, k4] = .ok (.rt (.t .non))
  | 0, r, acc, at_, k3, k4, _, h, _, _, _ => by omega
  | fuel + 1, [], acc, at_, k3, k4, h1, _, _, _, _ => by
    have hn : ws.length ≤ at_ := List.drop_eq_nil_iff.mp h1
    have hni : ¬ ((at_ : Int) < (ws.length : Int)) := by omega
    have hni' : ¬ (at_ < ws.length) := by omega
    simp only [prsS]
    refine .inl ⟨acc, at_, k3, k4, hn, ?_⟩
    unfold whR
    simp [hni, hni']
  | fuel + 1, w :: r0, acc, at_, k3, k4, h1, hf, ha, hal, hat => by
    have g0 : ws[at_]? = some w := by
      have := congrArg (fun l => l[0]?) h1
      simpa [List.getElem?_drop] using this
    have hlen : ws.length = at_ + 1 + r0.length := by
      have := congrArg List.length h1
      simp at this; omega
    have hw := hws w (List.mem_of_getElem? g0)
    have hlt : ((at_ : Int) < (ws.length : Int)) := by omega
    have hlt' : at_ < ws.length := by omega
    have hcast : ((at_ + 1 : Nat) : Int) = (at_ : Int) + 1 := by omega
    have hix : ixD (.lst (ws.map T.str)) (.t (.int (at_ : Int))) = .ok (.t (.str w)) := by
      rw [ix_l, atI_nat, List.getElem?_map, g0]; rfl
    have hcond : tAnd2 (tV (b2 ltD (rdE 2) (ap lenD (cA (rdE 0) nA)))) (tV (b2 neD (b2 ixD (rdE 0) (rdE 2)) (kS ";"))) [.d (.lst (ws.map T.str)) false, .d (.lst (acc.map prT)) true, .d (.t (.int (at_ : Int))) true, k3, k4] = .ok (!decide (w = ";")) := by
      by_cases hs : w = ";"
      · subst hs; simp [hlt', hix, g0, -ix_l]
      · simp [hlt', hix, hs, g0, -ix_l]
    by_cases hs : w = ";"
    · have hp : prsS acc (w :: r0) = some (acc, r0) := by
        cases r0 with
        | nil => unfold prsS; rw [if_pos hs]
        | cons nm r => unfold prsS; rw [if_pos hs]
      rw [hp]
      refine ⟨k3, k4, ?_⟩
      have e : ws.length - r0.length - 1 = at_ := by omega
      rw [e]
      unfold whR
      rw [hcond]
      simp [hs]
    have hcond' := hcond
    rw [decide_eq_false hs] at hcond'
    have hmore : ∀ k3 : Sl, (setO 4 (b2 ixD (b2 addD (rdE 0) (ap mkLst (cA (kS "") nA))) (b2 addD (rdE 2) (kI 1)))) [.d (.lst (ws.map T.str)) false, .d (.lst (acc.map prT)) true, .d (.t (.int (at_ : Int))) true, k3, k4] = .ok (.nx [.d (.lst (ws.map T.str)) false, .d (.lst (acc.map prT)) true, .d (.t (.int (at_ : Int))) true, k3, .d (.t (.str ((ws[at_ + 1]?).getD ""))) true]) := fun k3 => by
      have := more_at ws hwl (at_ + 1) (by omega) (rdE 0) (b2 addD (rdE 2) (kI 1)) [.d (.lst (ws.map T.str)) false, .d (.lst (acc.map prT)) true, .d (.t (.int (at_ : Int))) true, k3, k4] rfl (by simp [hcast])
      unfold setO
      rw [this]; rfl
    have none_out : ∀ (nb : Option Int) (hnb : num w = nb) (nm : Str) (hnm : (ws[at_ + 1]?).getD "" = nm) (hnl : nm.length ≤ 1000000), ¬ (∃ by_, nb = some by_ ∧ by_ ≠ 0 ∧ isNm nm = true ∧ okn acc nm = true) → whR (tAnd2 (tV (b2 ltD (rdE 2) (ap lenD (cA (rdE 0) nA)))) (tV (b2 neD (b2 ixD (rdE 0) (rdE 2)) (kS ";")))) (seqO (setO 3 (ap m_law_number (cA (b2 ixD (rdE 0) (rdE 2)) nA)))
    (seqO (setO 4 (b2 ixD (b2 addD (rdE 0) (ap mkLst (cA (kS "") nA))) (b2 addD (rdE 2) (kI 1))))
    (seqO (ifO (tOr2 (tV (b2 isD (rdE 3) kN)) (tOr2 (tV (b2 eqD (rdE 3) (kI 0))) (tOr2 (tNot1 (tV (ap m_law_is_name (cA (rdE 4) nA)))) (tAnd2 (tV (b2 neD (rdE 1) (ap mkLst nA))) (tV (b2 leD (rdE 4) (b2 ixD (b2 ixD (rdE 1) (u1 negD (kI 1))) (kI 0)))))))) (retO kN) nxO)
    (seqO (appO 1 (ap mkTup (cA (rdE 4) (cA (rdE 3) nA))))
    (setO 2 (b2 addD (rdE 2) (kI 2))))))) (fuel + 1) [.d (.lst (ws.map T.str)) false, .d (.lst (acc.map prT)) true, .d (.t (.int (at_ : Int))) true, k3, k4] = .ok (.rt (.t .non)) := by
      intro nb hnb nm hnm hnl hno
      unfold whR
      rw [hcond']
      simp only [R.ok_bind, Bool.not_false, if_true]
      have hisn := law_is_name_eq nm hnl
      rw [hnm] at hmore
      cases nb with
      | none =>
        have hna := law_num_no hw hnb
        have q1 : (setO 3 (ap m_law_number (cA (b2 ixD (rdE 0) (rdE 2)) nA))) [.d (.lst (ws.map T.str)) false, .d (.lst (acc.map prT)) true, .d (.t (.int (at_ : Int))) true, k3, k4] = .ok (.nx [.d (.lst (ws.map T.str)) false, .d (.lst (acc.map prT)) true, .d (.t (.int (at_ : Int))) true, .d (.t .non) true, k4]) := by simp [hix, hna, -ix_l]
        rw [seqO, q1]
        simp only [R.ok_bind]
        rw [seqO, hmore]
        simp only [R.ok_bind]
        simp
      | some by_ =>
        have hna := law_num' hw hnb
        have q1 : (setO 3 (ap m_law_number (cA (b2 ixD (rdE 0) (rdE 2)) nA))) [.d (.lst (ws.map T.str)) false, .d (.lst (acc.map prT)) true, .d (.t (.int (at_ : Int))) true, k3, k4] = .ok (.nx [.d (.lst (ws.map T.str)) false, .d (.lst (acc.map prT)) true, .d (.t (.int (at_ : Int))) true, .d (.t (.int by_)) true, k4]) := by simp [hix, hna, -ix_l]
        rw [seqO, q1]
        simp only [R.ok_bind]
        rw [seqO, hmore]
        simp only [R.ok_bind]
        have hbad := part_bad acc ha nm by_ (rdE 3) (rdE 4) (rdE 1) [.d (.lst (ws.map T.str)) false, .d (.lst (acc.map prT)) true, .d (.t (.int (at_ : Int))) true, .d (.t (.int by_)) true, .d (.t (.str nm)) true] rfl rfl rfl
        have q2 : (tOr2 (tV (b2 isD (rdE 3) kN)) (tOr2 (tV (b2 eqD (rdE 3) (kI 0))) (tOr2 (tNot1 (tV (ap m_law_is_name (cA (rdE 4) nA)))) (tAnd2 (tV (b2 neD (rdE 1) (ap mkLst nA))) (tV (b2 leD (rdE 4) (b2 ixD (b2 ixD (rdE 1) (u1 negD (kI 1))) (kI 0)))))))) [.d (.lst (ws.map T.str)) false, .d (.lst (acc.map prT)) true, .d (.t (.int (at_ : Int))) true, .d (.t (.int by_)) true, .d (.t (.str nm)) true] = .ok true := by
          by_cases h0 : by_ = 0
          · simp [h0]
          · cases hi : isNm nm with
            | false => rw [hi] at hisn; simp [h0, hisn]
            | true =>
              have ho : okn acc nm = false := by
                rw [Bool.eq_false_iff]; exact fun q => hno ⟨by_, rfl, h0, hi, q⟩
              rw [ho] at hbad
              rw [hi] at hisn
              unfold tOr2
              rw [hbad]
              simp [h0, hisn, orR]
        rw [seqO]
        unfold ifO
        rw [q2]
        rfl
    cases hnum : num w with
    | none =>
      have hp : prsS acc (w :: r0) = none := by
        cases r0 with
        | nil => unfold prsS; rw [if_neg hs]
        | cons nm r => unfold prsS; rw [if_neg hs, hnum]
      rw [hp]
      refine .inr (none_out none hnum _ rfl ?_ (by rintro ⟨b, e, _⟩; cases e))
      cases hg : ws[at_ + 1]? with
      | none => simp [empty_eq]
      | some nm => exact hws nm (List.mem_of_getElem? hg)
    | some by_ =>
      cases r0 with
      | nil =>
        have hp : prsS acc [w] = none := by unfold prsS; rw [if_neg hs]
        rw [hp]
        have hg : ws[at_ + 1]? = none := by rw [List.getElem?_eq_none_iff]; simp at hlen; omega
        refine .inr (none_out (some by_) hnum "" (by rw [hg]; rfl) (by simp [empty_eq]) ?_)
        rintro ⟨b, _, _, hi, _⟩
        rw [isNm_empty] at hi; cases hi
      | cons nm r =>
        have hg : ws[at_ + 1]? = some nm := by
          have := congrArg (fun l => l[1]?) h1
          simpa [List.getElem?_drop] using this
        have hnl := hws nm (List.mem_of_getElem? hg)
        have hp0 : prsS acc (w :: nm :: r) = if by_ ≠ 0 ∧ isNm nm = true ∧ okn acc nm = true then prsS (acc ++ [(nm, by_)]) r else none := by
          conv => lhs; unfold prsS
          rw [if_neg hs, hnum]
        by_cases hc : by_ ≠ 0 ∧ isNm nm = true ∧ okn acc nm = true
        · rw [if_pos hc] at hp0
          rw [hp0]
          have h1' : ws.drop (at_ + 2) = r := by
            have := congrArg (List.drop 2) h1
            rw [List.drop_drop] at this
            rw [Nat.add_comm at_ 2] at *
            simpa using this
          have ih := sum_along_loop ws hws hwl fuel r (acc ++ [(nm, by_)]) (at_ + 2) (.d (.t (.int by_)) true) (.d (.t (.str nm)) true) h1' (by simp at hf; omega) (fun p hp => by
            rcases List.mem_append.mp hp with q | q
            · exact ha p q
            · simp at q; rw [q]; exact isNm_iff.mp hc.2.1) (by simp; omega) (by simp at hlen; omega)
          have hcast2 : ((at_ + 2 : Nat) : Int) = (at_ : Int) + 2 := by omega
          have hal2 : acc.length < 16777216 := by omega
          have hmap : (acc ++ [(nm, by_)]).map prT = acc.map prT ++ [.tup [.str nm, .int by_]] := by simp [prT]
          rw [hcast2, hmap] at ih
          rw [hg] at hmore
          have step : ∀ Z : R Out, (whR (tAnd2 (tV (b2 ltD (rdE 2) (ap lenD (cA (rdE 0) nA)))) (tV (b2 neD (b2 ixD (rdE 0) (rdE 2)) (kS ";")))) (seqO (setO 3 (ap m_law_number (cA (b2 ixD (rdE 0) (rdE 2)) nA)))
    (seqO (setO 4 (b2 ixD (b2 addD (rdE 0) (ap mkLst (cA (kS "") nA))) (b2 addD (rdE 2) (kI 1))))
    (seqO (ifO (tOr2 (tV (b2 isD (rdE 3) kN)) (tOr2 (tV (b2 eqD (rdE 3) (kI 0))) (tOr2 (tNot1 (tV (ap m_law_is_name (cA (rdE 4) nA)))) (tAnd2 (tV (b2 neD (rdE 1) (ap mkLst nA))) (tV (b2 leD (rdE 4) (b2 ixD (b2 ixD (rdE 1) (u1 negD (kI 1))) (kI 0)))))))) (retO kN) nxO)
    (seqO (appO 1 (ap mkTup (cA (rdE 4) (cA (rdE 3) nA))))
    (setO 2 (b2 addD (rdE 2) (kI 2))))))) fuel [.d (.lst (ws.map T.str)) false, .d (.lst (acc.map prT ++ [.tup [.str nm, .int by_]])) true, .d (.t (.int ((at_ : Int) + 2))) true, .d (.t (.int by_)) true, .d (.t (.str nm)) true] = Z) → whR (tAnd2 (tV (b2 ltD (rdE 2) (ap lenD (cA (rdE 0) nA)))) (tV (b2 neD (b2 ixD (rdE 0) (rdE 2)) (kS ";")))) (seqO (setO 3 (ap m_law_number (cA (b2 ixD (rdE 0) (rdE 2)) nA)))
    (seqO (setO 4 (b2 ixD (b2 addD (rdE 0) (ap mkLst (cA (kS "") nA))) (b2 addD (rdE 2) (kI 1))))
    (seqO (ifO (tOr2 (tV (b2 isD (rdE 3) kN)) (tOr2 (tV (b2 eqD (rdE 3) (kI 0))) (tOr2 (tNot1 (tV (ap m_law_is_name (cA (rdE 4) nA)))) (tAnd2 (tV (b2 neD (rdE 1) (ap mkLst nA))) (tV (b2 leD (rdE 4) (b2 ixD (b2 ixD (rdE 1) (u1 negD (kI 1))) (kI 0)))))))) (retO kN) nxO)
    (seqO (appO 1 (ap mkTup (cA (rdE 4) (cA (rdE 3) nA))))
    (setO 2 (b2 addD (rdE 2) (kI 2))))))) (fuel + 1) [.d (.lst (ws.map T.str)) false, .d (.lst (acc.map prT)) true, .d (.t (.int (at_ : Int))) true, k3, k4] = Z := by
            intro Z e
            unfold whR
            rw [hcond']
            simp only [R.ok_bind, Bool.not_false, if_true]
            have hna := law_num' hw hnum
            have hisn := law_is_name_eq nm hnl
            rw [hc.2.1] at hisn
            have q1 : (setO 3 (ap m_law_number (cA (b2 ixD (rdE 0) (rdE 2)) nA))) [.d (.lst (ws.map T.str)) false, .d (.lst (acc.map prT)) true, .d (.t (.int (at_ : Int))) true, k3, k4] = .ok (.nx [.d (.lst (ws.map T.str)) false, .d (.lst (acc.map prT)) true, .d (.t (.int (at_ : Int))) true, .d (.t (.int by_)) true, k4]) := by simp [hix, hna, -ix_l]
            rw [seqO, q1]
            simp only [R.ok_bind]
            rw [seqO, hmore]
            simp only [R.ok_bind, Option.getD_some]
            have hbad := part_bad acc ha nm by_ (rdE 3) (rdE 4) (rdE 1) [.d (.lst (ws.map T.str)) false, .d (.lst (acc.map prT)) true, .d (.t (.int (at_ : Int))) true, .d (.t (.int by_)) true, .d (.t (.str nm)) true] rfl rfl rfl
            rw [hc.2.2] at hbad
            have q2 : (ifO (tOr2 (tV (b2 isD (rdE 3) kN)) (tOr2 (tV (b2 eqD (rdE 3) (kI 0))) (tOr2 (tNot1 (tV (ap m_law_is_name (cA (rdE 4) nA)))) (tAnd2 (tV (b2 neD (rdE 1) (ap mkLst nA))) (tV (b2 leD (rdE 4) (b2 ixD (b2 ixD (rdE 1) (u1 negD (kI 1))) (kI 0)))))))) (retO kN) nxO) [.d (.lst (ws.map T.str)) false, .d (.lst (acc.map prT)) true, .d (.t (.int (at_ : Int))) true, .d (.t (.int by_)) true, .d (.t (.str nm)) true] = .ok (.nx [.d (.lst (ws.map T.str)) false, .d (.lst (acc.map prT)) true, .d (.t (.int (at_ : Int))) true, .d (.t (.int by_)) true, .d (.t (.str nm)) true]) := by
              unfold ifO tOr2
              rw [hbad]
              simp [hc.1, hisn, orR]
            rw [seqO, q2]
            simp only [R.ok_bind]
            have q3 : (appO 1 (ap mkTup (cA (rdE 4) (cA (rdE 3) nA)))) [.d (.lst (ws.map T.str)) false, .d (.lst (acc.map prT)) true, .d (.t (.int (at_ : Int))) true, .d (.t (.int by_)) true, .d (.t (.str nm)) true] = .ok (.nx [.d (.lst (ws.map T.str)) false, .d (.lst (acc.map prT ++ [.tup [.str nm, .int by_]])) true, .d (.t (.int (at_ : Int))) true, .d (.t (.int by_)) true, .d (.t (.str nm)) true]) := by simp [appO, hal2]
            rw [seqO, q3]
            simp only [R.ok_bind]
            exact e
          cases hr : prsS (acc ++ [(nm, by_)]) r with
          | none =>
            rw [hr] at ih
            rcases ih with ⟨ps, at', k3', k4', e1, e2⟩ | e
            · exact .inl ⟨ps, at', k3', k4', e1, step _ e2⟩
            · exact .inr (step _ e)
          | some v =>
            obtain ⟨ps, r'⟩ := v
            rw [hr] at ih
            obtain ⟨k3', k4', e⟩ := ih
            exact ⟨k3', k4', step _ e⟩
        · rw [if_neg hc] at hp0
          rw [hp0]
          refine .inr (none_out (some by_) hnum nm (by rw [hg]; rfl) hnl ?_)
          rintro ⟨b, e, e1, e2, e3⟩
          cases e
          exact hc ⟨e1, e2, e3⟩
end Pf

set_option Elab.async false
set_option linter.all false
set_option maxRecDepth 100000
set_option maxHeartbeats 4000000
namespace Pf
open PySem L2
theorem sumS_cons (w : Str) (r : List Str) : sumS (w :: r) = match num w with | none => none | some n => (match prsS [] r with | none => none | some (ps, r') => some ((n, ps), r')) := rfl
theorem sum_along_eq (ws : List Str) (hws : ∀ w ∈ ws, w.length ≤ 1000000) (hwl : ws.length < 100000) : m_law_sum_along [.lst (ws.map T.str)] = match sumS ws with
    | some ((n, ps), r') => .ok (.pr (smT n ps) (r'.map T.str))
    | none => .ok (.t .non) := by
  unfold m_law_sum_along g_law_sum_along
  rw [runDef_Rt]
  have hlo := sum_along_loop ws hws (by omega) 100000 (ws.drop 1) [] 1 .un .un rfl (by simp; omega) (by simp) (by simp) (by omega)
  simp only [List.map_nil] at hlo
  have hone : ((1 : Nat) : Int) = 1 := rfl
  rw [hone] at hlo
  simp only [List.map_cons, List.map_nil, List.cons_append, List.nil_append, un_s, un_0]
  refine (Rt_seq (by simp; rfl)).trans ?_
  refine (Rt_seq (by simp; rfl)).trans ?_
  have fin_none : sumS ws = none → ((∃ (ps : Prs) (at' : Nat) (k3' k4' : Sl), ws.length ≤ at' ∧ (whR (tAnd2 (tV (b2 ltD (rdE 2) (ap lenD (cA (rdE 0) nA)))) (tV (b2 neD (b2 ixD (rdE 0) (rdE 2)) (kS ";")))) (seqO (setO 3 (ap m_law_number (cA (b2 ixD (rdE 0) (rdE 2)) nA)))
    (seqO (setO 4 (b2 ixD (b2 addD (rdE 0) (ap mkLst (cA (kS "") nA))) (b2 addD (rdE 2) (kI 1))))
    (seqO (ifO (tOr2 (tV (b2 isD (rdE 3) kN)) (tOr2 (tV (b2 eqD (rdE 3) (kI 0))) (tOr2 (tNot1 (tV (ap m_law_is_name (cA (rdE 4) nA)))) (tAnd2 (tV (b2 neD (rdE 1) (ap mkLst nA))) (tV (b2 leD (rdE 4) (b2 ixD (b2 ixD (rdE 1) (u1 negD (kI 1))) (kI 0)))))))) (retO kN) nxO)
    (seqO (appO 1 (ap mkTup (cA (rdE 4) (cA (rdE 3) nA))))
    (setO 2 (b2 addD (rdE 2) (kI 2))))))) 100000) [.d (.lst (ws.map T.str)) false, .d (.lst []) true, .d (.t (.int 1)) true, .un, .un] = R.ok (Out.nx [.d (.lst (ws.map T.str)) false, .d (.lst (ps.map prT)) true, .d (.t (.int (at' : Int))) true, k3', k4'])) ∨ (whR (tAnd2 (tV (b2 ltD (rdE 2) (ap lenD (cA (rdE 0) nA)))) (tV (b2 neD (b2 ixD (rdE 0) (rdE 2)) (kS ";")))) (seqO (setO 3 (ap m_law_number (cA (b2 ixD (rdE 0) (rdE 2)) nA)))
    (seqO (setO 4 (b2 ixD (b2 addD (rdE 0) (ap mkLst (cA (kS "") nA))) (b2 addD (rdE 2) (kI 1))))
    (seqO (ifO (tOr2 (tV (b2 isD (rdE 3) kN)) (tOr2 (tV (b2 eqD (rdE 3) (kI 0))) (tOr2 (tNot1 (tV (ap m_law_is_name (cA (rdE 4) nA)))) (tAnd2 (tV (b2 neD (rdE 1) (ap mkLst nA))) (tV (b2 leD (rdE 4) (b2 ixD (b2 ixD (rdE 1) (u1 negD (kI 1))) (kI 0)))))))) (retO kN) nxO)
    (seqO (appO 1 (ap mkTup (cA (rdE 4) (cA (rdE 3) nA))))
    (setO 2 (b2 addD (rdE 2) (kI 2))))))) 100000) [.d (.lst (ws.map T.str)) false, .d (.lst []) true, .d (.t (.int 1)) true, .un, .un] = R.ok (Out.rt (.t .non))) → Rt ((seqO (whR (tAnd2 (tV (b2 ltD (rdE 2) (ap lenD (cA (rdE 0) nA)))) (tV (b2 neD (b2 ixD (rdE 0) (rdE 2)) (kS ";")))) (seqO (setO 3 (ap m_law_number (cA (b2 ixD (rdE 0) (rdE 2)) nA)))
    (seqO (setO 4 (b2 ixD (b2 addD (rdE 0) (ap mkLst (cA (kS "") nA))) (b2 addD (rdE 2) (kI 1))))
    (seqO (ifO (tOr2 (tV (b2 isD (rdE 3) kN)) (tOr2 (tV (b2 eqD (rdE 3) (kI 0))) (tOr2 (tNot1 (tV (ap m_law_is_name (cA (rdE 4) nA)))) (tAnd2 (tV (b2 neD (rdE 1) (ap mkLst nA))) (tV (b2 leD (rdE 4) (b2 ixD (b2 ixD (rdE 1) (u1 negD (kI 1))) (kI 0)))))))) (retO kN) nxO)
    (seqO (appO 1 (ap mkTup (cA (rdE 4) (cA (rdE 3) nA))))
    (setO 2 (b2 addD (rdE 2) (kI 2))))))) 100000) (seqO (ifO (tOr2 (tV (b2 geD (rdE 2) (ap lenD (cA (rdE 0) nA)))) (tV (b2 isD (ap m_law_number (cA (b2 ixD (rdE 0) (kI 0)) nA)) kN))) (retO kN) nxO)
  (retO (prD (ap mkTup (cA (ap m_law_number (cA (b2 ixD (rdE 0) (kI 0)) nA)) (cA (ap tupleD (cA (rdE 1) nA)) nA))) (sl3 (rdE 0) (sS (b2 addD (rdE 2) (kI 1))) sN))))) [.d (.lst (ws.map T.str)) false, .d (.lst []) true, .d (.t (.int 1)) true, .un, .un]) = match sumS ws with
    | some ((n, ps), r') => .ok (.pr (smT n ps) (r'.map T.str))
    | none => .ok (.t .non) := fun hs h => by
    rw [hs]
    rcases h with ⟨ps, at', k3', k4', e1, e2⟩ | e
    · refine (Rt_seq e2).trans ?_
      have e1' : ((ws.length : Int) ≤ (at' : Int)) := by omega
      simp [e1, e1']
    · rw [seqO, e]; rfl
  cases hw : ws with
  | nil =>
    rw [← hw]
    have hd0 : ws.drop 1 = [] := by rw [hw]; rfl
    rw [hd0] at hlo
    simp only [prsS] at hlo
    exact fin_none (by rw [hw]; rfl) hlo
  | cons w r =>
    rw [← hw]
    have hdr : ws.drop 1 = r := by rw [hw]; rfl
    rw [hdr] at hlo
    have hwm : w ∈ ws := by rw [hw]; simp
    cases hp : prsS [] r with
    | none =>
      rw [hp] at hlo
      exact fin_none (by rw [hw, sumS_cons, hp]; cases num w <;> rfl) hlo
    | some v =>
      obtain ⟨ps, r'⟩ := v
      rw [hp] at hlo
      obtain ⟨k3, k4, e⟩ := hlo
      obtain ⟨q, hq⟩ := prsS_suf _ _ _ _ hp
      have hsl := suf_len hq
      have hlen : ws.length = r.length + 1 := by rw [hw]; rfl
      have hpl : ps.length ≤ 16777216 := by have := prsS_len _ _ _ _ hp; simp at this; omega
      refine (Rt_seq e).trans ?_
      have hlt : ¬ ((ws.length : Int) ≤ ((ws.length - r'.length - 1 : Nat) : Int)) := by omega
      have hlt' : ¬ (ws.length ≤ ws.length - r'.length - 1) := by omega
      have e2 : ((ws.length - r'.length - 1 : Nat) : Int) + 1 = ((ws.length - r'.length : Nat) : Int) := by omega
      have hd : ws.drop (ws.length - r'.length) = r' := by
        have e3 : ws = (w :: (q ++ [(";" : Str)])) ++ r' := by rw [hw, hq]; simp
        have e4 : ws.length - r'.length = (w :: (q ++ [(";" : Str)])).length := by
          have := congrArg List.length e3
          rw [List.length_append] at this; omega
        rw [e4, e3, List.drop_left]
      have hsl2 := drop_ln (ws.map T.str) (ws.length - r'.length)
      rw [← List.map_drop, hd] at hsl2
      have hix : ixD (.lst (ws.map T.str)) (.t (.int 0)) = .ok (.t (.str w)) := by rw [hw, ix_l]; simp
      cases hnum : num w with
      | none =>
        have hs : sumS ws = none := by rw [hw, sumS_cons, hnum]
        rw [hs]
        have hna := law_num_no (hws w hwm) hnum
        have q1 : (ifO (tOr2 (tV (b2 geD (rdE 2) (ap lenD (cA (rdE 0) nA)))) (tV (b2 isD (ap m_law_number (cA (b2 ixD (rdE 0) (kI 0)) nA)) kN))) (retO kN) nxO) [.d (.lst (ws.map T.str)) false, .d (.lst (ps.map prT)) true, .d (.t (.int ((ws.length - r'.length - 1 : Nat) : Int))) true, k3, k4] = .ok (.rt (.t .non)) := by simp [hlt, hlt', hix, hna, -ix_l]
        rw [seqO, q1]; rfl
      | some n =>
        have hs : sumS ws = some ((n, ps), r') := by rw [hw, sumS_cons, hnum, hp]
        rw [hs]
        have hna := law_num' (hws w hwm) hnum
        have q1 : (ifO (tOr2 (tV (b2 geD (rdE 2) (ap lenD (cA (rdE 0) nA)))) (tV (b2 isD (ap m_law_number (cA (b2 ixD (rdE 0) (kI 0)) nA)) kN))) (retO kN) nxO) [.d (.lst (ws.map T.str)) false, .d (.lst (ps.map prT)) true, .d (.t (.int ((ws.length - r'.length - 1 : Nat) : Int))) true, k3, k4] = .ok (.nx [.d (.lst (ws.map T.str)) false, .d (.lst (ps.map prT)) true, .d (.t (.int ((ws.length - r'.length - 1 : Nat) : Int))) true, k3, k4]) := by simp [hlt, hlt', hix, hna, -ix_l]
        refine (Rt_seq q1).trans ?_
        have q2 : b2 addD (rdE 2) (kI 1) [.d (.lst (ws.map T.str)) false, .d (.lst (ps.map prT)) true, .d (.t (.int ((ws.length - r'.length - 1 : Nat) : Int))) true, k3, k4] = .ok (.t (.int ((ws.length - r'.length : Nat) : Int))) := by
          simp only [b2, rdE_0, rdE_s, kI, R.ok_bind, add_ii, e2]
        have q3 : sl3 (rdE 0) (sS (b2 addD (rdE 2) (kI 1))) sN [.d (.lst (ws.map T.str)) false, .d (.lst (ps.map prT)) true, .d (.t (.int ((ws.length - r'.length - 1 : Nat) : Int))) true, k3, k4] = .ok (.lst (r'.map T.str)) := by
          simp only [sl3, sS, sN, q2, rdE_0, R.ok_bind, asInt, hsl2]
        have q4 : ap mkTup (cA (ap m_law_number (cA (b2 ixD (rdE 0) (kI 0)) nA)) (cA (ap tupleD (cA (rdE 1) nA)) nA)) [.d (.lst (ws.map T.str)) false, .d (.lst (ps.map prT)) true, .d (.t (.int ((ws.length - r'.length - 1 : Nat) : Int))) true, k3, k4] = .ok (.t (smT n ps)) := by
          simp [hix, hna, hpl, smT, -ix_l]
        unfold retO prD
        rw [q4]
        simp only [R.ok_bind]
        rw [q3]; rfl
/-! ## statements of a note -/
noncomputable def ptS (p : List Str → Option (F × List Str)) : Nat → List Str → Option (List F × List Str)
  | 0, r => some ([], r)
  | c + 1, r => match p r with
    | none => none
    | some (f, r') => match ptS p c r' with
      | none => none
      | some (fs, r'') => some (f :: fs, r'')
noncomputable def enS (k : EK) (r : List Str) : Option (F × List Str) := match sumS r with
  | none => none
  | some ((n, ps), r') => some (.e k n ps, r')
noncomputable def stS : Nat → List Str → Option (F × List Str)
  | 0, _ => none
  | _ + 1, [] => none
  | d + 1, k :: r =>
    if k = "above" then enS .above r
    else if k = "nought" then enS .nought r
    else if k = "goes" then match r with
      | [] => none
      | h :: r2 => match num h with
        | none => none
        | some z => if 1 ≤ z then enS (.goes z) r2 else none
    else if k = "not" then match stS d r with
      | none => none
      | some (f, r') => some (.nt f, r')
    else if k = "and" ∨ k = "or" then match r with
      | [] => none
      | c :: r2 => match num c with
        | none => none
        | some z => if 0 ≤ z then match ptS (stS d) z.toNat r2 with
            | none => none
            | some (fs, r') => some (.nd (decide (k = "and")) fs, r')
          else none
    else if k = "some" ∨ k = "all" then match r with
      | [] => none
      | nm :: r2 => if isNm nm = true then match stS d r2 with
          | none => none
          | some (f, r') => some (.qn (decide (k = "some")) nm f, r')
        else none
    else none
theorem sumS_suf {r r' : List Str} {v : Int × Prs} (h : sumS r = some (v, r')) : ∃ q, r = q ++ r' := by
  cases r with
  | nil => simp [sumS] at h
  | cons w r0 =>
    rw [sumS_cons] at h
    cases hn : num w with
    | none => rw [hn] at h; cases h
    | some n =>
      rw [hn] at h
      cases hp : prsS [] r0 with
      | none => rw [hp] at h; cases h
      | some u =>
        obtain ⟨ps, r1⟩ := u
        rw [hp] at h
        obtain ⟨q, e⟩ := prsS_suf _ _ _ _ hp
        simp at h
        exact ⟨w :: (q ++ [(";" : Str)]), by rw [e, ← h.2]; simp⟩
theorem enS_suf {k : EK} {r r' : List Str} {f : F} (h : enS k r = some (f, r')) : ∃ q, r = q ++ r' := by
  unfold enS at h
  cases hs : sumS r with
  | none => rw [hs] at h; cases h
  | some v =>
    obtain ⟨⟨n, ps⟩, r1⟩ := v
    rw [hs] at h
    simp at h
    obtain ⟨q, e⟩ := sumS_suf hs
    exact ⟨q, by rw [e, h.2]⟩
theorem ptS_suf {p : List Str → Option (F × List Str)} (hp : ∀ r f r', p r = some (f, r') → ∃ q, r = q ++ r' ∧ q ≠ []) : ∀ (c : Nat) (r : List Str) (fs : List F) (r' : List Str), ptS p c r = some (fs, r') → (∃ q, r = q ++ r') ∧ fs.length = c
  | 0, r, fs, r', h => by
    simp [ptS] at h
    exact ⟨⟨[], by rw [h.2]; rfl⟩, by rw [h.1]; rfl⟩
  | c + 1, r, fs, r', h => by
    unfold ptS at h
    cases h1 : p r with
    | none => rw [h1] at h; cases h
    | some v =>
      obtain ⟨f, r1⟩ := v
      rw [h1] at h
      simp only at h
      cases h2 : ptS p c r1 with
      | none => rw [h2] at h; cases h
      | some u =>
        obtain ⟨gs, r2⟩ := u
        rw [h2] at h
        simp at h
        obtain ⟨q1, e1, _⟩ := hp _ _ _ h1
        obtain ⟨⟨q2, e2⟩, l2⟩ := ptS_suf hp c r1 gs r2 h2
        exact ⟨⟨q1 ++ q2, by rw [e1, e2, h.2, List.append_assoc]⟩, by rw [← h.1]; simp [l2]⟩
theorem stS_suf : ∀ (d : Nat) (r : List Str) (f : F) (r' : List Str), stS d r = some (f, r') → ∃ q, r = q ++ r' ∧ q ≠ []
  | 0, r, f, r', h => by simp [stS] at h
  | d + 1, [], f, r', h => by simp [stS] at h
  | d + 1, k :: r, f, r', h => by
    unfold stS at h
    have fin : (∃ q, r = q ++ r') → ∃ q, k :: r = q ++ r' ∧ q ≠ [] := fun ⟨q, e⟩ => ⟨k :: q, by rw [e]; rfl, by simp⟩
    split at h
    · exact fin (enS_suf h)
    split at h
    · exact fin (enS_suf h)
    split at h
    · cases r with
      | nil => cases h
      | cons w r2 =>
        simp only at h
        cases hn : num w with
        | none => rw [hn] at h; cases h
        | some z =>
          rw [hn] at h
          simp only at h
          split at h
          · obtain ⟨q, e⟩ := enS_suf h
            exact fin ⟨w :: q, by rw [e]; rfl⟩
          · cases h
    split at h
    · cases hs : stS d r with
      | none => rw [hs] at h; cases h
      | some v =>
        obtain ⟨g, r1⟩ := v
        rw [hs] at h
        simp at h
        obtain ⟨q, e, _⟩ := stS_suf d r g r1 hs
        exact fin ⟨q, by rw [e, h.2]⟩
    split at h
    · cases r with
      | nil => cases h
      | cons w r2 =>
        simp only at h
        cases hn : num w with
        | none => rw [hn] at h; cases h
        | some z =>
          rw [hn] at h
          simp only at h
          split at h
          · cases hs : ptS (stS d) z.toNat r2 with
            | none => rw [hs] at h; cases h
            | some v =>
              obtain ⟨gs, r1⟩ := v
              rw [hs] at h
              simp at h
              obtain ⟨⟨q, e⟩, _⟩ := ptS_suf (stS_suf d) _ _ _ _ hs
              exact fin ⟨w :: q, by rw [e, h.2]; rfl⟩
          · cases h
    split at h
    · cases r with
      | nil => cases h
      | cons w r2 =>
        simp only at h
        split at h
        · cases hs : stS d r2 with
          | none => rw [hs] at h; cases h
          | some v =>
            obtain ⟨g, r1⟩ := v
            rw [hs] at h
            simp at h
            obtain ⟨q, e, _⟩ := stS_suf d r2 g r1 hs
            exact fin ⟨w :: q, by rw [e, h.2]; rfl⟩
        · cases h
    · cases h
end Pf

set_option Elab.async false
set_option linter.all false
set_option maxRecDepth 100000
set_option maxHeartbeats 4000000
namespace Pf
open PySem L2
theorem drop_suf {ws r q r1 : List Str} {a : Nat} (h : ws.drop a = r) (e : r = q ++ r1) : ws.drop (ws.length - r1.length) = r1 ∧ r1.length ≤ ws.length := by
  obtain ⟨A, e1⟩ : ∃ A, ws = A ++ r1 := ⟨ws.take a ++ q, by rw [List.append_assoc, ← e, ← h, List.take_append_drop]⟩
  subst e1
  simp
theorem ptS_len {p : List Str → Option (F × List Str)} (hp : ∀ r f r', p r = some (f, r') → ∃ q, r = q ++ r' ∧ q ≠ []) : ∀ (c : Nat) (r : List Str) (fs : List F) (r' : List Str), ptS p c r = some (fs, r') → fs.length + r'.length ≤ r.length
  | 0, r, fs, r', h => by
    simp [ptS] at h
    rw [h.1, h.2]; simp
  | c + 1, r, fs, r', h => by
    unfold ptS at h
    cases h1 : p r with
    | none => rw [h1] at h; cases h
    | some v =>
      obtain ⟨f, r1⟩ := v
      rw [h1] at h
      simp only at h
      cases h2 : ptS p c r1 with
      | none => rw [h2] at h; cases h
      | some u =>
        obtain ⟨gs, r2⟩ := u
        rw [h2] at h
        simp at h
        obtain ⟨q1, e1, hq⟩ := hp _ _ _ h1
        have := ptS_len hp c r1 gs r2 h2
        have hql := List.length_pos_iff.mpr hq
        rw [← h.1, ← h.2, e1, List.length_append, List.length_cons]
        omega
/-- what statement_at tells of the words behind a place -/
def StP (d : Nat) : Prop := ∀ (n a : Nat) (ws : List Str), 2 * d + 1 ≤ n → (∀ w ∈ ws, w.length ≤ 1000000) → ws.length < 100000 → a ≤ ws.length → m_statement_at n [.lst (ws.map T.str), .t (.int (a : Int)), .t (.int (40 - (d : Int)))] = match stS d (ws.drop a) with
  | some (f, r') => .ok (.t (.tup [f.enc, .int ((ws.length - r'.length : Nat) : Int)]))
  | none => .raise 2
theorem parts_at_loop (d n : Nat) (hst : StP d) (hn : 2 * d + 1 ≤ n) (ws : List Str) (hws : ∀ w ∈ ws, w.length ≤ 1000000) (hwl : ws.length < 100000) (cnt : Int) : ∀ (fuel : Nat) (r : List Str) (acc : List F) (a c : Nat) (k5 : Sl), ws.drop a = r → a ≤ ws.length → r.length < fuel → (acc.length : Int) + (c : Int) = cnt → acc.length ≤ a →
    match ptS (stS d) c r with
    | some (fs, r') => ∃ k5' : Sl, whR (tV (b2 ltD (ap lenD (cA (rdE 4) nA)) (rdE 3))) (seqO (unpO [5, 1] (ap (m_statement_at n) (cA (rdE 0) (cA (rdE 1) (cA (rdE 2) nA)))))
    (appO 4 (rdE 5))) fuel [.d (.lst (ws.map T.str)) false, .d (.t (.int (a : Int))) true, .d (.t (.int (40 - (d : Int)))) false, .d (.t (.int cnt)) true, .d (.lst (acc.map F.enc)) true, k5] = .ok (.nx [.d (.lst (ws.map T.str)) false, .d (.t (.int ((ws.length - r'.length : Nat) : Int))) true, .d (.t (.int (40 - (d : Int)))) false, .d (.t (.int cnt)) true, .d (.lst ((acc ++ fs).map F.enc)) true, k5'])
    | none => whR (tV (b2 ltD (ap lenD (cA (rdE 4) nA)) (rdE 3))) (seqO (unpO [5, 1] (ap (m_statement_at n) (cA (rdE 0) (cA (rdE 1) (cA (rdE 2) nA)))))
    (appO 4 (rdE 5))) fuel [.d (.lst (ws.map T.str)) false, .d (.t (.int (a : Int))) true, .d (.t (.int (40 - (d : Int)))) false, .d (.t (.int cnt)) true, .d (.lst (acc.map F.enc)) true, k5] = .raise 2
  | 0, r, acc, a, c, k5, _, _, h, _, _ => by omega
  | fuel + 1, r, acc, a, 0, k5, h1, h2, _, hc, _ => by
    have hlen : r.length = ws.length - a := by rw [← h1]; simp
    have e : ws.length - r.length = a := by omega
    simp only [ptS]
    refine ⟨k5, ?_⟩
    rw [e, List.append_nil]
    have hlt : ¬ ((acc.length : Int) < cnt) := by omega
    unfold whR
    simp [hlt]
  | fuel + 1, r, acc, a, c + 1, k5, h1, h2, hf, hc, hal => by
    have hlt : (acc.length : Int) < cnt := by omega
    have hr := hst n a ws hn hws hwl h2
    rw [h1] at hr
    unfold ptS
    cases hs : stS d r with
    | none =>
      rw [hs] at hr
      show whR _ _ _ _ = _
      unfold whR
      simp [hlt, unpO, hr]
    | some v =>
      obtain ⟨f, r1⟩ := v
      rw [hs] at hr
      obtain ⟨q, e, hq⟩ := stS_suf d r f r1 hs
      obtain ⟨hd, hl1⟩ := drop_suf h1 e
      have hrl : r1.length < r.length := by
        rw [e, List.length_append]
        have := List.length_pos_iff.mpr hq
        omega
      have hlen : r.length = ws.length - a := by rw [← h1]; simp
      have ih := parts_at_loop d n hst hn ws hws hwl cnt fuel r1 (acc ++ [f]) (ws.length - r1.length) c (.d (.t f.enc) true) hd (by omega) (by omega) (by simp; omega) (by simp; omega)
      have hal2 : acc.length < 16777216 := by omega
      have hmap : (acc ++ [f]).map F.enc = acc.map F.enc ++ [f.enc] := by simp
      rw [hmap] at ih
      have step : ∀ Z : R Out, whR (tV (b2 ltD (ap lenD (cA (rdE 4) nA)) (rdE 3))) (seqO (unpO [5, 1] (ap (m_statement_at n) (cA (rdE 0) (cA (rdE 1) (cA (rdE 2) nA)))))
    (appO 4 (rdE 5))) fuel [.d (.lst (ws.map T.str)) false, .d (.t (.int ((ws.length - r1.length : Nat) : Int))) true, .d (.t (.int (40 - (d : Int)))) false, .d (.t (.int cnt)) true, .d (.lst (acc.map F.enc ++ [f.enc])) true, .d (.t f.enc) true] = Z → whR (tV (b2 ltD (ap lenD (cA (rdE 4) nA)) (rdE 3))) (seqO (unpO [5, 1] (ap (m_statement_at n) (cA (rdE 0) (cA (rdE 1) (cA (rdE 2) nA)))))
    (appO 4 (rdE 5))) (fuel + 1) [.d (.lst (ws.map T.str)) false, .d (.t (.int (a : Int))) true, .d (.t (.int (40 - (d : Int)))) false, .d (.t (.int cnt)) true, .d (.lst (acc.map F.enc)) true, k5] = Z := by
        intro Z ez
        unfold whR
        have hcond : tV (b2 ltD (ap lenD (cA (rdE 4) nA)) (rdE 3)) [.d (.lst (ws.map T.str)) false, .d (.t (.int (a : Int))) true, .d (.t (.int (40 - (d : Int)))) false, .d (.t (.int cnt)) true, .d (.lst (acc.map F.enc)) true, k5] = .ok true := by simp [hlt]
        rw [hcond]
        simp only [R.ok_bind, if_true]
        have q1 : (unpO [5, 1] (ap (m_statement_at n) (cA (rdE 0) (cA (rdE 1) (cA (rdE 2) nA))))) [.d (.lst (ws.map T.str)) false, .d (.t (.int (a : Int))) true, .d (.t (.int (40 - (d : Int)))) false, .d (.t (.int cnt)) true, .d (.lst (acc.map F.enc)) true, k5] = .ok (.nx [.d (.lst (ws.map T.str)) false, .d (.t (.int ((ws.length - r1.length : Nat) : Int))) true, .d (.t (.int (40 - (d : Int)))) false, .d (.t (.int cnt)) true, .d (.lst (acc.map F.enc)) true, .d (.t f.enc) true]) := by simp [unpO, hr, gNames]
        rw [seqO, q1]
        simp only [R.ok_bind]
        have q2 : (appO 4 (rdE 5)) [.d (.lst (ws.map T.str)) false, .d (.t (.int ((ws.length - r1.length : Nat) : Int))) true, .d (.t (.int (40 - (d : Int)))) false, .d (.t (.int cnt)) true, .d (.lst (acc.map F.enc)) true, .d (.t f.enc) true] = .ok (.nx [.d (.lst (ws.map T.str)) false, .d (.t (.int ((ws.length - r1.length : Nat) : Int))) true, .d (.t (.int (40 - (d : Int)))) false, .d (.t (.int cnt)) true, .d (.lst (acc.map F.enc ++ [f.enc])) true, .d (.t f.enc) true]) := by simp [appO, hal2]
        rw [q2]
        exact ez
      cases hp : ptS (stS d) c r1 with
      | none =>
        rw [hp] at ih
        simp only [hp]
        exact step _ ih
      | some u =>
        obtain ⟨fs, r'⟩ := u
        rw [hp] at ih
        simp only [hp]
        obtain ⟨k5', e5⟩ := ih
        rw [List.append_assoc] at e5
        exact ⟨k5', step _ e5⟩
theorem parts_at_eq (d n : Nat) (hst : StP d) (hn : 2 * d + 1 ≤ n) (ws : List Str) (hws : ∀ w ∈ ws, w.length ≤ 1000000) (hwl : ws.length < 100000) (a : Nat) (ha : a ≤ ws.length) : m_parts_at (n + 1) [.lst (ws.map T.str), .t (.int (a : Int)), .t (.int (40 - (d : Int)))] = match ws.drop a with
    | [] => .raise 2
    | c :: r2 => match num c with
      | none => .raise 2
      | some z => if 0 ≤ z then match ptS (stS d) z.toNat r2 with
          | none => .raise 2
          | some (fs, r') => .ok (.t (.tup [.tup (F.encs fs), .int ((ws.length - r'.length : Nat) : Int)]))
        else .raise 2 := by
  show runDef 3 (g_parts_at (m_parts_at n) (m_statement_at n)) _ = _
  unfold g_parts_at
  rw [runDef_Rt]
  cases hd : ws.drop a with
  | nil =>
    have hn2 : ws[a]? = none := by
      rw [List.getElem?_eq_none_iff]
      exact List.drop_eq_nil_iff.mp hd
    have hna := num_end hws hn2
    simp [hna, Rt]
  | cons c r2 =>
    have g0 : ws[a]? = some c := by
      have := congrArg (fun l => l[0]?) hd
      simpa [List.getElem?_drop] using this
    have hlen : ws.length = a + 1 + r2.length := by
      have := congrArg List.length hd
      simp at this; omega
    have hdr : ws.drop (a + 1) = r2 := by
      have := congrArg (List.drop 1) hd
      rw [List.drop_drop] at this
      simpa [Nat.add_comm] using this
    have hcast : ((a + 1 : Nat) : Int) = (a : Int) + 1 := by omega
    cases hnum : num c with
    | none =>
      have hna := num_no hws g0 hnum
      simp [hna, Rt, hnum]
    | some z =>
      have hna := num_at' hws g0 hnum
      simp only [hnum]
      simp only [List.map_cons, List.map_nil, List.cons_append, List.nil_append, un_s, un_0]
      refine (Rt_seq (by simp [hna]; rfl)).trans ?_
      by_cases hz0 : ¬ 0 ≤ z
      · have hz : z < 0 := by omega
        rw [if_neg hz0]
        simp [hz, Rt]
      have hz : 0 ≤ z := by omega
      have hzn : ¬ z < 0 := by omega
      rw [if_pos hz]
      refine (Rt_seq (by simp [hzn]; rfl)).trans ?_
      refine (Rt_seq (by simp; rfl)).trans ?_
      refine (Rt_seq (by simp; rfl)).trans ?_
      have hlo := parts_at_loop d n hst hn ws hws hwl z 100000 r2 [] (a + 1) z.toNat .un hdr (by omega) (by omega) (by simp; omega) (by simp)
      simp only [List.map_nil, hcast, List.nil_append] at hlo
      cases hp : ptS (stS d) z.toNat r2 with
      | none =>
        rw [hp] at hlo
        rw [seqO, hlo]; rfl
      | some v =>
        obtain ⟨fs, r'⟩ := v
        rw [hp] at hlo
        obtain ⟨k5', e⟩ := hlo
        have hfl : fs.length ≤ 16777216 := by have := ptS_len (stS_suf d) _ _ _ _ hp; omega
        refine (Rt_seq e).trans ?_
        simp [hfl, encs_map]
end Pf

set_option Elab.async false
set_option linter.all false
set_option maxRecDepth 100000
set_option maxHeartbeats 4000000
namespace Pf
open PySem L2
theorem stS_cons (d : Nat) (k : Str) (r : List Str) : stS (d + 1) (k :: r) =
    if k = "above" then enS .above r
    else if k = "nought" then enS .nought r
    else if k = "goes" then match r with
      | [] => none
      | h :: r2 => match num h with
        | none => none
        | some z => if 1 ≤ z then enS (.goes z) r2 else none
    else if k = "not" then match stS d r with
      | none => none
      | some (f, r') => some (.nt f, r')
    else if k = "and" ∨ k = "or" then match r with
      | [] => none
      | c :: r2 => match num c with
        | none => none
        | some z => if 0 ≤ z then match ptS (stS d) z.toNat r2 with
            | none => none
            | some (fs, r') => some (.nd (decide (k = "and")) fs, r')
          else none
    else if k = "some" ∨ k = "all" then match r with
      | [] => none
      | nm :: r2 => if isNm nm = true then match stS d r2 with
          | none => none
          | some (f, r') => some (.qn (decide (k = "some")) nm f, r')
        else none
    else none := by
  rw [stS.eq_def] <;> rfl
theorem stP : ∀ d : Nat, d ≤ 40 → StP d := by
  intro d
  induction d with
  | zero =>
    intro _ n a ws hn hws hwl ha
    obtain ⟨m, rfl⟩ : ∃ m, n = m + 1 := ⟨n - 1, by omega⟩
    show runDef 6 (g_statement_at (m_parts_at m) (m_statement_at m)) _ = _
    unfold g_statement_at
    rw [runDef_Rt]
    have hmw : ∀ ρ : Ev, gl_MOST_WITHIN ρ = .ok (.t (.int 40)) := fun _ => rfl
    cases hg : ws[a]? with
    | none => have hwa := word_no hg; simp [hwa, Rt, stS]
    | some k => have hwa := word_at' hg; simp [hwa, hmw, Rt, stS]
  | succ d ih =>
    intro hd40 n a ws hn hws hwl ha
    have hst := ih (by omega)
    obtain ⟨m, rfl⟩ : ∃ m, n = m + 2 := ⟨n - 2, by omega⟩
    have hmw : ∀ ρ : Ev, gl_MOST_WITHIN ρ = .ok (.t (.int 40)) := fun _ => rfl
    show runDef 6 (g_statement_at (m_parts_at (m + 1)) (m_statement_at (m + 1))) _ = _
    unfold g_statement_at
    rw [runDef_Rt]
    cases hd : ws.drop a with
    | nil =>
      have hn2 : ws[a]? = none := by
        rw [List.getElem?_eq_none_iff]
        exact List.drop_eq_nil_iff.mp hd
      have hwa := word_no hn2
      simp [hwa, Rt, stS]
    | cons k r =>
      have g0 : ws[a]? = some k := by
        have := congrArg (fun l => l[0]?) hd
        simpa [List.getElem?_drop] using this
      have hlen : ws.length = a + 1 + r.length := by
        have := congrArg List.length hd
        simp at this; omega
      have hdr : ws.drop (a + 1) = r := by
        have := congrArg (List.drop 1) hd
        rw [List.drop_drop] at this
        simpa [Nat.add_comm] using this
      have hwa := word_at' g0
      have hcast : ((a + 1 : Nat) : Int) = (a : Int) + 1 := by omega
      have hcast2 : ((a + 2 : Nat) : Int) = (a : Int) + 2 := by omega
      have hwi : (40 - ((d + 1 : Nat) : Int)) + 1 = 40 - (d : Int) := by omega
      have hlt : ¬ ((40 : Int) ≤ 40 - ((d + 1 : Nat) : Int)) := by omega
      simp only [List.map_cons, List.map_nil, List.cons_append, List.nil_append, un_s, un_0]
      generalize hW : (40 - ((d + 1 : Nat) : Int)) = W at hwi hlt
      refine (Rt_seq (by simp [hwa]; rfl)).trans ?_
      refine (Rt_seq (by simp [hmw, hlt]; rfl)).trans ?_
      rw [stS_cons]
      have hsum := sum_at_eq ws hws hwl (a + 1) (by omega)
      rw [hcast, hdr] at hsum
      by_cases k1 : k = "above"
      · rw [if_pos k1]; subst k1
        unfold enS
        cases hs : sumS r with
        | none => rw [hs] at hsum; simp [hsum, unpO, Rt]
        | some v =>
          obtain ⟨⟨n, ps⟩, r'⟩ := v
          rw [hs] at hsum
          simp [hsum, unpO, gNames, F.enc]
      rw [if_neg k1]
      by_cases k2 : k = "nought"
      · rw [if_pos k2]; subst k2
        unfold enS
        cases hs : sumS r with
        | none => rw [hs] at hsum; simp [hsum, unpO, Rt]
        | some v =>
          obtain ⟨⟨n, ps⟩, r'⟩ := v
          rw [hs] at hsum
          simp [hsum, unpO, gNames, F.enc]
      rw [if_neg k2]
      refine (Rt_seq (by simp [k1, k2]; rfl)).trans ?_
      -- the word behind
      have next : ∀ w r2, r = w :: r2 → ws[a + 1]? = some w ∧ ws.drop (a + 2) = r2 ∧ a + 2 ≤ ws.length := fun w r2 e => by
        subst e
        refine ⟨?_, ?_, by simp at hlen; omega⟩
        · have := congrArg (fun l => l[1]?) hd
          simpa [List.getElem?_drop] using this
        · have := congrArg (List.drop 2) hd
          rw [List.drop_drop] at this
          simpa [Nat.add_comm] using this
      have nonext : r = [] → ws[a + 1]? = none := fun e => by
        subst e
        rw [List.getElem?_eq_none_iff]; simp at hlen; omega
      by_cases k3 : k = "goes"
      · rw [if_pos k3]; subst k3
        cases r with
        | nil =>
          have hna := num_end hws (nonext rfl)
          rw [hcast] at hna
          simp [hna, Rt]
        | cons w r2 =>
          obtain ⟨g1, g2, g3⟩ := next w r2 rfl
          have hsum2 := sum_at_eq ws hws hwl (a + 2) g3
          rw [hcast2, g2] at hsum2
          cases hnum : num w with
          | none =>
            have hna := num_no hws g1 hnum
            rw [hcast] at hna
            simp [hna, Rt, hnum]
          | some z =>
            have hna := num_at' hws g1 hnum
            rw [hcast] at hna
            simp only [hnum]
            by_cases hz : 1 ≤ z
            · rw [if_pos hz]
              have hzn : ¬ z < 1 := by omega
              unfold enS
              cases hs : sumS r2 with
              | none => rw [hs] at hsum2; simp [hna, hzn, hsum2, unpO, Rt]
              | some v =>
                obtain ⟨⟨n, ps⟩, r'⟩ := v
                rw [hs] at hsum2
                simp [hna, hzn, hsum2, unpO, gNames, F.enc]
            · rw [if_neg hz]
              have hzn : z < 1 := by omega
              simp [hna, hzn, Rt]
      rw [if_neg k3]
      refine (Rt_seq (by simp [k3]; rfl)).trans ?_
      by_cases k4 : k = "not"
      · rw [if_pos k4]; subst k4
        have hr := hst (m + 1) (a + 1) ws (by omega) hws hwl (by omega)
        rw [hcast, hdr] at hr
        cases hs : stS d r with
        | none => rw [hs] at hr; simp [hwi, hr, unpO, Rt]
        | some v =>
          obtain ⟨f, r'⟩ := v
          rw [hs] at hr
          simp [hwi, hr, unpO, gNames, F.enc]
      rw [if_neg k4]
      refine (Rt_seq (by simp [k4]; rfl)).trans ?_
      by_cases k5 : k = "and" ∨ k = "or"
      · rw [if_pos k5]
        have hp := parts_at_eq d m hst (by omega) ws hws hwl (a + 1) (by omega)
        rw [hcast, hdr] at hp
        rcases k5 with e | e
        all_goals
          subst e
          cases r with
          | nil => simp only at hp; simp [hwi, hp, unpO, Rt]
          | cons w r2 =>
            simp only at hp ⊢
            cases hnum : num w with
            | none => simp only [hnum] at hp; simp [hwi, hp, unpO, Rt]
            | some z =>
              simp only [hnum] at hp
              simp only
              by_cases hz : 0 ≤ z
              · rw [if_pos hz] at hp ⊢
                cases hs : ptS (stS d) z.toNat r2 with
                | none => rw [hs] at hp; simp [hwi, hp, unpO, Rt]
                | some v =>
                  obtain ⟨fs, r'⟩ := v
                  rw [hs] at hp
                  simp [hwi, hp, unpO, gNames, F.enc]
              · rw [if_neg hz] at hp ⊢
                simp [hwi, hp, unpO, Rt]
      rw [if_neg k5]
      have k5a : ¬ k = "and" := fun e => k5 (.inl e)
      have k5b : ¬ k = "or" := fun e => k5 (.inr e)
      refine (Rt_seq (by simp [k5a, k5b]; rfl)).trans ?_
      by_cases k6 : k = "some" ∨ k = "all"
      · rw [if_pos k6]
        rcases k6 with e | e
        all_goals
          subst e
          cases r with
          | nil =>
            have hna := nam_end hws (nonext rfl)
            rw [hcast] at hna
            simp [hna, Rt]
          | cons w r2 =>
            obtain ⟨g1, g2, g3⟩ := next w r2 rfl
            have hr := hst (m + 1) (a + 2) ws (by omega) hws hwl g3
            rw [hcast2, g2] at hr
            simp only
            by_cases hi : isNm w = true
            · rw [if_pos hi]
              have hna := nam_at' hws g1 hi
              rw [hcast] at hna
              cases hs : stS d r2 with
              | none => rw [hs] at hr; simp [hna, hwi, hr, unpO, Rt]
              | some v =>
                obtain ⟨f, r'⟩ := v
                rw [hs] at hr
                simp [hna, hwi, hr, unpO, gNames, F.enc]
            · rw [if_neg hi]
              have hna := nam_no hws g1 hi
              rw [hcast] at hna
              simp [hna, Rt]
      · rw [if_neg k6]
        have k6a : ¬ k = "some" := fun e => k6 (.inl e)
        have k6b : ¬ k = "all" := fun e => k6 (.inr e)
        simp [k6a, k6b, Rt]
end Pf

set_option Elab.async false
set_option linter.all false
set_option maxRecDepth 100000
set_option maxHeartbeats 4000000
namespace Pf
open PySem L2
/-! ## the law's going along the words -/
theorem lay_ok : ∀ l : List Str, (∀ s ∈ l, PyData.strOk s = true) → PyData.canLayAll0 (toPys (l.map T.str)) = true ∧ PyData.depthAll (toPys (l.map T.str)) ≤ 1
  | [], _ => by simp [toPys, PyData.canLayAll0, PyData.depthAll]
  | s :: l, h => by
    obtain ⟨i1, i2⟩ := lay_ok l fun x hx => h x (List.mem_cons_of_mem _ hx)
    simp only [List.map_cons, toPys, toPy, PyData.canLayAll0, PyData.canLay0, PyData.depthAll, PyData.depth, h s (by simp), i1, Bool.and_self, true_and]
    omega
theorem shaped_ok (l : List Str) (h : ∀ s ∈ l, PyData.strOk s = true) : SeqAt.shaped (.list (toPys (l.map T.str))) = true := by
  obtain ⟨i1, i2⟩ := lay_ok l h
  unfold SeqAt.shaped
  have e1 : PyData.canLay0 (.list (toPys (l.map T.str))) = true := i1
  have e2 : PyData.depth (.list (toPys (l.map T.str))) ≤ 64 := Nat.le_trans (Nat.succ_le_succ i2) (by decide)
  rw [e1, decide_eq_true e2]; rfl
theorem eq_ok_nil (l : List Str) (h : ∀ s ∈ l, PyData.strOk s = true) : eqD (.lst (l.map T.str)) (.lst []) = .ok (.t (.bl (decide (l = [])))) ∧ neD (.lst (l.map T.str)) (.lst []) = .ok (.t (.bl (!decide (l = [])))) := by
  have h1 := shaped_ok l h
  have h2 : SeqAt.shaped (.list (toPys [])) = true := by rfl
  simp only [eqD, neD, eqB, h1, h2, Bool.and_self, if_true]
  cases l <;> simp [toPys, PyData.eqv, PyData.eqvAll]
/-- words that can be read -/
structure Wok (ws : List Str) : Prop where
  len : ∀ w ∈ ws, w.length ≤ 1000000
  ok : ∀ w ∈ ws, PyData.strOk w = true
  cnt : ws.length < 100000
theorem Wok.suf {q r : List Str} (h : Wok (q ++ r)) : Wok r := ⟨fun w hw => h.len w (List.mem_append.mpr (.inr hw)), fun w hw => h.ok w (List.mem_append.mpr (.inr hw)), by have := h.cnt; rw [List.length_append] at this; omega⟩
theorem Wok.tail {w : Str} {r : List Str} (h : Wok (w :: r)) : Wok r := Wok.suf (q := [w]) h
def AlP (d : Nat) : Prop := ∀ (n : Nat) (ws : List Str), 2 * d + 1 ≤ n → Wok ws → m_law_along n [.lst (ws.map T.str), .t (.int (40 - (d : Int)))] = match stS d ws with
  | some (f, r') => .ok (.pr f.enc (r'.map T.str))
  | none => .ok (.t .non)
theorem num_empty : num "" = none := by
  refine num_none fun h => h.1 ?_
  rw [empty_eq, sl_cps]; rfl
theorem along_loop (d n : Nat) (hal : AlP d) (hn : 2 * d + 1 ≤ n) (a0 : Sl) (cnt : Int) : ∀ (fuel : Nat) (r : List Str) (acc : List F) (c : Nat), Wok r → r.length < fuel → (acc.length : Int) + (c : Int) = cnt → acc.length + r.length ≤ 100000 →
    match ptS (stS d) c r with
    | some (fs, r') => ∃ k5 : Sl, whR (tV (b2 ltD (ap lenD (cA (rdE 4) nA)) (rdE 2))) (seqO (setO 5 (ap (m_law_along n) (cA (rdE 3) (cA (rdE 1) nA))))
    (seqO (ifO (tV (b2 isD (rdE 5) kN)) (retO kN) nxO)
    (seqO (appO 4 (b2 ixD (rdE 5) (kI 0)))
    (movO 3 5)))) fuel [a0, .d (.t (.int (40 - (d : Int)))) false, .d (.t (.int cnt)) true, .d (.lst (r.map T.str)) true, .d (.lst (acc.map F.enc)) true, .un] = .ok (.nx [a0, .d (.t (.int (40 - (d : Int)))) false, .d (.t (.int cnt)) true, .d (.lst (r'.map T.str)) true, .d (.lst ((acc ++ fs).map F.enc)) true, k5])
    | none => whR (tV (b2 ltD (ap lenD (cA (rdE 4) nA)) (rdE 2))) (seqO (setO 5 (ap (m_law_along n) (cA (rdE 3) (cA (rdE 1) nA))))
    (seqO (ifO (tV (b2 isD (rdE 5) kN)) (retO kN) nxO)
    (seqO (appO 4 (b2 ixD (rdE 5) (kI 0)))
    (movO 3 5)))) fuel [a0, .d (.t (.int (40 - (d : Int)))) false, .d (.t (.int cnt)) true, .d (.lst (r.map T.str)) true, .d (.lst (acc.map F.enc)) true, .un] = .ok (.rt (.t .non))
  | 0, r, acc, c, _, h, _, _ => by omega
  | fuel + 1, r, acc, 0, hw, _, hc, _ => by
    have hlt : ¬ ((acc.length : Int) < cnt) := by omega
    simp only [ptS]
    refine ⟨.un, ?_⟩
    rw [List.append_nil]
    unfold whR
    simp [hlt]
  | fuel + 1, r, acc, c + 1, hw, hf, hc, hlen => by
    have hlt : (acc.length : Int) < cnt := by omega
    have hr := hal n r hn hw
    unfold ptS
    have hcond : tV (b2 ltD (ap lenD (cA (rdE 4) nA)) (rdE 2)) [a0, .d (.t (.int (40 - (d : Int)))) false, .d (.t (.int cnt)) true, .d (.lst (r.map T.str)) true, .d (.lst (acc.map F.enc)) true, .un] = .ok true := by simp [hlt]
    cases hs : stS d r with
    | none =>
      rw [hs] at hr
      show whR _ _ _ _ = _
      unfold whR
      rw [hcond]
      simp [hr]
    | some v =>
      obtain ⟨f, r1⟩ := v
      rw [hs] at hr
      obtain ⟨q, e, hq⟩ := stS_suf d r f r1 hs
      have hw1 : Wok r1 := Wok.suf (q := q) (e ▸ hw)
      have hrl : r1.length < r.length := by
        rw [e, List.length_append]
        have := List.length_pos_iff.mpr hq
        omega
      have ih := along_loop d n hal hn a0 cnt fuel r1 (acc ++ [f]) c hw1 (by omega) (by simp; omega) (by simp; omega)
      have hal2 : acc.length < 16777216 := by omega
      have hmap : (acc ++ [f]).map F.enc = acc.map F.enc ++ [f.enc] := by simp
      rw [hmap] at ih
      have step : ∀ Z : R Out, whR (tV (b2 ltD (ap lenD (cA (rdE 4) nA)) (rdE 2))) (seqO (setO 5 (ap (m_law_along n) (cA (rdE 3) (cA (rdE 1) nA))))
    (seqO (ifO (tV (b2 isD (rdE 5) kN)) (retO kN) nxO)
    (seqO (appO 4 (b2 ixD (rdE 5) (kI 0)))
    (movO 3 5)))) fuel [a0, .d (.t (.int (40 - (d : Int)))) false, .d (.t (.int cnt)) true, .d (.lst (r1.map T.str)) true, .d (.lst (acc.map F.enc ++ [f.enc])) true, .un] = Z → whR (tV (b2 ltD (ap lenD (cA (rdE 4) nA)) (rdE 2))) (seqO (setO 5 (ap (m_law_along n) (cA (rdE 3) (cA (rdE 1) nA))))
    (seqO (ifO (tV (b2 isD (rdE 5) kN)) (retO kN) nxO)
    (seqO (appO 4 (b2 ixD (rdE 5) (kI 0)))
    (movO 3 5)))) (fuel + 1) [a0, .d (.t (.int (40 - (d : Int)))) false, .d (.t (.int cnt)) true, .d (.lst (r.map T.str)) true, .d (.lst (acc.map F.enc)) true, .un] = Z := by
        intro Z ez
        unfold whR
        rw [hcond]
        simp only [R.ok_bind, if_true]
        have q1 : (setO 5 (ap (m_law_along n) (cA (rdE 3) (cA (rdE 1) nA)))) [a0, .d (.t (.int (40 - (d : Int)))) false, .d (.t (.int cnt)) true, .d (.lst (r.map T.str)) true, .d (.lst (acc.map F.enc)) true, .un] = .ok (.nx [a0, .d (.t (.int (40 - (d : Int)))) false, .d (.t (.int cnt)) true, .d (.lst (r.map T.str)) true, .d (.lst (acc.map F.enc)) true, .d (.pr f.enc (r1.map T.str)) true]) := by simp [hr]
        rw [seqO, q1]
        simp only [R.ok_bind]
        have q2 : (ifO (tV (b2 isD (rdE 5) kN)) (retO kN) nxO) [a0, .d (.t (.int (40 - (d : Int)))) false, .d (.t (.int cnt)) true, .d (.lst (r.map T.str)) true, .d (.lst (acc.map F.enc)) true, .d (.pr f.enc (r1.map T.str)) true] = .ok (.nx [a0, .d (.t (.int (40 - (d : Int)))) false, .d (.t (.int cnt)) true, .d (.lst (r.map T.str)) true, .d (.lst (acc.map F.enc)) true, .d (.pr f.enc (r1.map T.str)) true]) := rfl
        rw [seqO, q2]
        simp only [R.ok_bind]
        have q3 : (appO 4 (b2 ixD (rdE 5) (kI 0))) [a0, .d (.t (.int (40 - (d : Int)))) false, .d (.t (.int cnt)) true, .d (.lst (r.map T.str)) true, .d (.lst (acc.map F.enc)) true, .d (.pr f.enc (r1.map T.str)) true] = .ok (.nx [a0, .d (.t (.int (40 - (d : Int)))) false, .d (.t (.int cnt)) true, .d (.lst (r.map T.str)) true, .d (.lst (acc.map F.enc ++ [f.enc])) true, .d (.pr f.enc (r1.map T.str)) true]) := by simp [appO, ixD, hal2]
        rw [seqO, q3]
        simp only [R.ok_bind]
        have q4 : (movO 3 5) [a0, .d (.t (.int (40 - (d : Int)))) false, .d (.t (.int cnt)) true, .d (.lst (r.map T.str)) true, .d (.lst (acc.map F.enc ++ [f.enc])) true, .d (.pr f.enc (r1.map T.str)) true] = .ok (.nx [a0, .d (.t (.int (40 - (d : Int)))) false, .d (.t (.int cnt)) true, .d (.lst (r1.map T.str)) true, .d (.lst (acc.map F.enc ++ [f.enc])) true, .un]) := by simp [movO]
        rw [q4]
        exact ez
      cases hp : ptS (stS d) c r1 with
      | none =>
        rw [hp] at ih
        simp only [hp]
        exact step _ ih
      | some u =>
        obtain ⟨fs, r'⟩ := u
        rw [hp] at ih
        simp only [hp]
        obtain ⟨k5', e5⟩ := ih
        rw [List.append_assoc] at e5
        exact ⟨k5', step _ e5⟩
theorem setO_ap1 (i : Nat) (m : List D → R D) (g : Ev → R D) (ρ : Ev) (v u : D) (h : g ρ = .ok v) (h2 : m [v] = .ok u) : setO i (ap m (cA g nA)) ρ = .ok (.nx (ρ.set i (.d u true))) := by simp only [setO, ap, cA, nA, h, R.ok_bind, h2]
theorem parts_along_eq (d n : Nat) (hal : AlP d) (hn : 2 * d + 1 ≤ n) (ws : List Str) (hw : Wok ws) : m_law_parts_along (n + 1) [.lst (ws.map T.str), .t (.int (40 - (d : Int)))] = match ws with
    | [] => .ok (.t .non)
    | c :: r2 => match num c with
      | none => .ok (.t .non)
      | some z => if 0 ≤ z then match ptS (stS d) z.toNat r2 with
          | none => .ok (.t .non)
          | some (fs, r') => .ok (.pr (.tup (F.encs fs)) (r'.map T.str))
        else .ok (.t .non) := by
  show runDef 4 (g_law_parts_along (m_law_parts_along n) (m_law_along n)) _ = _
  unfold g_law_parts_along
  rw [runDef_Rt]
  have hcn := hw.cnt
  simp only [List.map_cons, List.map_nil, List.cons_append, List.nil_append, un_s, un_0]
  have hm := more_at ws (by omega) 0 (by omega) (rdE 0) (kI 0) [.d (.lst (ws.map T.str)) false, .d (.t (.int (40 - (d : Int)))) false, .un, .un, .un, .un] rfl rfl
  cases ws with
  | nil =>
    have hna := law_num_no (w := "") (by simp [empty_eq]) num_empty
    have q1 : (setO 2 (ap m_law_number (cA (b2 ixD (b2 addD (rdE 0) (ap mkLst (cA (kS "") nA))) (kI 0)) nA))) [.d (.lst (([] : List Str).map T.str)) false, .d (.t (.int (40 - (d : Int)))) false, .un, .un, .un, .un] = .ok (.nx [.d (.lst (([] : List Str).map T.str)) false, .d (.t (.int (40 - (d : Int)))) false, .d (.t .non) true, .un, .un, .un]) := setO_ap1 2 m_law_number _ _ _ _ hm hna
    refine (Rt_seq q1).trans ?_
    simp
  | cons c r2 =>
    have hcl := hw.len c (by simp)
    have hd1 := drop_ln ((c :: r2).map T.str) 1
    cases hnum : num c with
    | none =>
      have hna := law_num_no hcl hnum
      have q1 : (setO 2 (ap m_law_number (cA (b2 ixD (b2 addD (rdE 0) (ap mkLst (cA (kS "") nA))) (kI 0)) nA))) [.d (.lst ((c :: r2).map T.str)) false, .d (.t (.int (40 - (d : Int)))) false, .un, .un, .un, .un] = .ok (.nx [.d (.lst ((c :: r2).map T.str)) false, .d (.t (.int (40 - (d : Int)))) false, .d (.t .non) true, .un, .un, .un]) := setO_ap1 2 m_law_number _ _ _ _ hm hna
      refine (Rt_seq q1).trans ?_
      simp [hnum]
    | some z =>
      have hna := law_num' hcl hnum
      have q1 : (setO 2 (ap m_law_number (cA (b2 ixD (b2 addD (rdE 0) (ap mkLst (cA (kS "") nA))) (kI 0)) nA))) [.d (.lst ((c :: r2).map T.str)) false, .d (.t (.int (40 - (d : Int)))) false, .un, .un, .un, .un] = .ok (.nx [.d (.lst ((c :: r2).map T.str)) false, .d (.t (.int (40 - (d : Int)))) false, .d (.t (.int z)) true, .un, .un, .un]) := setO_ap1 2 m_law_number _ _ _ _ hm hna
      refine (Rt_seq q1).trans ?_
      simp only [hnum]
      by_cases hz0 : ¬ 0 ≤ z
      · have hz : z < 0 := by omega
        rw [if_neg hz0]
        simp [hz]
      have hz : 0 ≤ z := by omega
      have hzn : ¬ z < 0 := by omega
      rw [if_pos hz]
      refine (Rt_seq (by simp [hzn]; rfl)).trans ?_
      have hone : ((1 : Nat) : Int) = 1 := rfl
      rw [hone] at hd1
      have hdl : ((c :: r2).map T.str).drop 1 = r2.map T.str := rfl
      rw [hdl] at hd1
      have hd1' : slD (.lst (T.str c :: r2.map T.str)) (some 1) none = .ok (.lst (r2.map T.str)) := hd1
      refine (Rt_seq (ρ' := [.d (.lst ((c :: r2).map T.str)) false, .d (.t (.int (40 - (d : Int)))) false, .d (.t (.int z)) true, .d (.lst (r2.map T.str)) true, .un, .un]) (by
        simp [hd1'])).trans ?_
      refine (Rt_seq (by simp; rfl)).trans ?_
      have hw2 := hw.tail
      have hc2 := hw2.cnt
      have hlo := along_loop d n hal hn (.d (.lst ((c :: r2).map T.str)) false) z 100000 r2 [] z.toNat hw2 (by omega) (by simp; omega) (by simp; omega)
      simp only [List.map_nil, List.nil_append] at hlo
      cases hp : ptS (stS d) z.toNat r2 with
      | none =>
        rw [hp] at hlo
        rw [seqO]
        simp only [List.map_cons] at hlo ⊢
        rw [hlo]; rfl
      | some v =>
        obtain ⟨fs, r'⟩ := v
        rw [hp] at hlo
        obtain ⟨k5', e⟩ := hlo
        have hfl : fs.length ≤ 16777216 := by have := ptS_len (stS_suf d) _ _ _ _ hp; omega
        simp only [List.map_cons] at e ⊢
        refine (Rt_seq e).trans ?_
        simp [hfl, encs_map, retPr]
end Pf

set_option Elab.async false
set_option linter.all false
set_option maxRecDepth 100000
set_option maxHeartbeats 4000000
namespace Pf
open PySem L2
@[simp] theorem is_pr (x : T) (xs : List T) : isD (.pr x xs) (.t .non) = .ok (.t (.bl false)) := id rfl
@[simp] theorem ix_pr0 (x : T) (xs : List T) : ixD (.pr x xs) (.t (.int 0)) = .ok (.t x) := id rfl
theorem tV_gt (f : Ev → R D) (ρ : Ev) {z : Int} (h : f ρ = .ok (.t (.int z))) :
    tV (b2 gtD f (kI 0)) ρ = .ok (decide (0 < z)) := by
  simp [tV, b2, h]

theorem alP : ∀ d : Nat, d ≤ 40 → AlP d := by
  intro d
  induction d with
  | zero =>
    intro _ n ws hn hw
    obtain ⟨m, rfl⟩ : ∃ m, n = m + 1 := ⟨n - 1, by omega⟩
    show runDef 3 (g_law_along (m_law_parts_along m) (m_law_along m)) _ = _
    unfold g_law_along
    rw [runDef_Rt]
    obtain ⟨he, _⟩ := eq_ok_nil ws hw.ok
    by_cases h : ws = []
    · rw [decide_eq_true h] at he
      simp [he, stS]
    · rw [decide_eq_false h] at he
      simp [he, stS]
  | succ d ih =>
    intro hd40 n ws hn hw
    have hst := ih (by omega)
    obtain ⟨m, rfl⟩ : ∃ m, n = m + 2 := ⟨n - 2, by omega⟩
    show runDef 3 (g_law_along (m_law_parts_along (m + 1)) (m_law_along (m + 1))) _ = _
    unfold g_law_along
    rw [runDef_Rt]
    obtain ⟨he, _⟩ := eq_ok_nil ws hw.ok
    cases ws with
    | nil =>
      simp at he
      simp [he, stS]
    | cons k r =>
      have hwr := hw.tail
      have hne : ¬ (k :: r = []) := by simp
      rw [decide_eq_false hne] at he
      simp only [List.map_cons] at he
      have hwi : (40 - ((d + 1 : Nat) : Int)) + 1 = 40 - (d : Int) := by omega
      have hn40 : ¬ (40 - ((d + 1 : Nat) : Int) = 40) := by omega
      have hd1 : slD (.lst (T.str k :: r.map T.str)) (some 1) none = .ok (.lst (r.map T.str)) := drop_ln (T.str k :: r.map T.str) 1
      have hd2 : ∀ w r2, r = w :: r2 → slD (.lst (T.str k :: T.str w :: r2.map T.str)) (some 2) none = .ok (.lst (r2.map T.str)) := fun w r2 e => drop_ln (T.str k :: T.str w :: r2.map T.str) 2
      have hsum := sum_along_eq r hwr.len hwr.cnt
      simp only [List.map_cons, List.map_nil, List.cons_append, List.nil_append, un_s, un_0]
      generalize hW : (40 - ((d + 1 : Nat) : Int)) = W at hwi hn40
      refine (Rt_seq (by simp [he, hn40]; rfl)).trans ?_
      refine (Rt_seq (by simp; rfl)).trans ?_
      refine (Rt_seq (by simp; rfl)).trans ?_
      refine (Rt_seq (by simp; rfl)).trans ?_
      rw [stS_cons]
      by_cases k1 : k = "above"
      · rw [if_pos k1]; subst k1
        unfold enS
        cases hs : sumS r with
        | none => rw [hs] at hsum; simp [hd1, hsum]
        | some v =>
          obtain ⟨⟨n, ps⟩, r'⟩ := v
          rw [hs] at hsum
          simp [hd1, hsum, retPr2, addD, F.enc]
      rw [if_neg k1]
      by_cases k2 : k = "nought"
      · rw [if_pos k2]; subst k2
        unfold enS
        cases hs : sumS r with
        | none => rw [hs] at hsum; simp [hd1, hsum]
        | some v =>
          obtain ⟨⟨n, ps⟩, r'⟩ := v
          rw [hs] at hsum
          simp [hd1, hsum, retPr2, addD, F.enc]
      rw [if_neg k2]
      refine (Rt_seq (by simp [k1, k2]; rfl)).trans ?_
      by_cases k3 : k = "goes"
      · rw [if_pos k3]; subst k3
        cases r with
        | nil => simp
        | cons w r2 =>
          have hwl := hwr.len w (by simp)
          have hsum2 := sum_along_eq r2 hwr.tail.len hwr.tail.cnt
          have hd2' := hd2 w r2 rfl
          have hlen : (1 : Int) < (r2.length : Int) + 1 + 1 := by omega
          cases hnum : num w with
          | none =>
            have hna := law_num_no hwl hnum
            simp [hna, hlen, orT, hnum]
          | some z =>
            have hna := law_num' hwl hnum
            simp only [hnum]
            have hor : ∀ f : Ev → R D, ∀ ρ : Ev, f ρ = .ok (.t (.int z)) → orT f (kI 0) ρ = .ok (.t (.int z)) := fun f ρ e => by
              unfold orT
              rw [e]
              by_cases h0 : z = 0
              · subst h0; rfl
              · simp [h0]
            have hcond : tAnd2 (tV (b2 eqD (rdE 2) (kS "goes"))) (tAnd2 (tV (b2 gtD (ap lenD (cA (rdE 0) nA)) (kI 1))) (tV (b2 gtD (orT (ap m_law_number (cA (b2 ixD (rdE 0) (kI 1)) nA)) (kI 0)) (kI 0)))) [.d (.lst (T.str "goes" :: T.str w :: r2.map T.str)) false, .d (.t (.int W)) false, .d (.t (.str "goes")) true, .d (.t (.tup [.str "goes"])) true, .d (.t .non) true] = .ok (decide (0 < z)) := by
              have := hor (ap m_law_number (cA (b2 ixD (rdE 0) (kI 1)) nA)) [.d (.lst (T.str "goes" :: T.str w :: r2.map T.str)) false, .d (.t (.int W)) false, .d (.t (.str "goes")) true, .d (.t (.tup [.str "goes"])) true, .d (.t .non) true] (by simp [hna])
              have h3 : tV (b2 gtD (orT (ap m_law_number (cA (b2 ixD (rdE 0) (kI 1)) nA)) (kI 0)) (kI 0)) [.d (.lst (T.str "goes" :: T.str w :: r2.map T.str)) false, .d (.t (.int W)) false, .d (.t (.str "goes")) true, .d (.t (.tup [.str "goes"])) true, .d (.t .non) true] = .ok (decide (0 < z)) := by
                exact tV_gt _ _ this
              unfold tAnd2
              rw [h3]
              simp [hlen, andR]
            by_cases hz : 1 ≤ z
            · rw [if_pos hz]
              have hz0 : 0 < z := by omega
              rw [decide_eq_true hz0] at hcond
              unfold enS
              cases hs : sumS r2 with
              | none =>
                rw [hs] at hsum2
                refine (Rt_seq (by unfold ifO; simp only [List.map_cons]; rw [hcond]; simp [hna, hd2', hsum2]; rfl)).trans ?_
                simp
              | some v =>
                obtain ⟨⟨n, ps⟩, r'⟩ := v
                rw [hs] at hsum2
                refine (Rt_seq (by unfold ifO; simp only [List.map_cons]; rw [hcond]; simp [hna, hd2', hsum2]; rfl)).trans ?_
                simp [retPr2, addD, F.enc]
            · rw [if_neg hz]
              have hz0 : ¬ 0 < z := by omega
              rw [decide_eq_false hz0] at hcond
              refine (Rt_seq (by unfold ifO; simp only [List.map_cons]; rw [hcond]; rfl)).trans ?_
              simp
      rw [if_neg k3]
      refine (Rt_seq (by simp [k3]; rfl)).trans ?_
      by_cases k4 : k = "not"
      · rw [if_pos k4]; subst k4
        have hr := hst (m + 1) r (by omega) hwr
        cases hs : stS d r with
        | none => rw [hs] at hr; simp [hwi, hd1, hr]
        | some v =>
          obtain ⟨f, r'⟩ := v
          rw [hs] at hr
          simp [hwi, hd1, hr, retPr2, addD, F.enc]
      rw [if_neg k4]
      refine (Rt_seq (by simp [k4]; rfl)).trans ?_
      by_cases k5 : k = "and" ∨ k = "or"
      · rw [if_pos k5]
        have hp := parts_along_eq d m hst (by omega) r hwr
        rcases k5 with e | e
        all_goals
          subst e
          cases r with
          | nil => simp only [List.map_nil] at hp hd1; simp [hwi, hd1, hp]
          | cons w r2 =>
            simp only at hp ⊢
            simp only [List.map_cons] at hp hd1
            cases hnum : num w with
            | none => simp only [hnum] at hp; simp [hwi, hd1, hp]
            | some z =>
              simp only [hnum] at hp
              simp only
              by_cases hz : 0 ≤ z
              · rw [if_pos hz] at hp ⊢
                cases hs : ptS (stS d) z.toNat r2 with
                | none => rw [hs] at hp; simp [hwi, hd1, hp]
                | some v =>
                  obtain ⟨fs, r'⟩ := v
                  rw [hs] at hp
                  simp [hwi, hd1, hp, retPr2, addD, F.enc]
              · rw [if_neg hz] at hp ⊢
                simp [hwi, hd1, hp]
      rw [if_neg k5]
      have k5a : ¬ k = "and" := fun e => k5 (.inl e)
      have k5b : ¬ k = "or" := fun e => k5 (.inr e)
      refine (Rt_seq (by simp [k5a, k5b]; rfl)).trans ?_
      by_cases k6 : k = "some" ∨ k = "all"
      · rw [if_pos k6]
        rcases k6 with e | e
        all_goals
          subst e
          cases r with
          | nil => simp
          | cons w r2 =>
            have hwl := hwr.len w (by simp)
            have hr := hst (m + 1) r2 (by omega) hwr.tail
            have hisn := law_is_name_eq w hwl
            have hd2' := hd2 w r2 rfl
            have hlen : (1 : Int) < (r2.length : Int) + 1 + 1 := by omega
            simp only
            by_cases hi : isNm w = true
            · rw [if_pos hi]
              rw [hi] at hisn
              cases hs : stS d r2 with
              | none => rw [hs] at hr; simp [hisn, hlen, hwi, hd2', hr]
              | some v =>
                obtain ⟨f, r'⟩ := v
                rw [hs] at hr
                simp [hisn, hlen, hwi, hd2', hr, retPr2, addD, F.enc]
            · rw [if_neg hi]
              have hi' : isNm w = false := by simpa using hi
              rw [hi'] at hisn
              simp [hisn, hlen]
      · rw [if_neg k6]
        have k6a : ¬ k = "some" := fun e => k6 (.inl e)
        have k6b : ¬ k = "all" := fun e => k6 (.inr e)
        simp [k6a, k6b]
end Pf

set_option Elab.async false
set_option linter.all false
set_option maxRecDepth 100000
set_option maxHeartbeats 4000000
namespace Pf
open PySem L2
/-! ## what has been read is alike itself -/
theorem enS_good {k : EK} {r r' : List Str} {f : F} (h : enS k r = some (f, r')) (hl : r.length < 100000) (n : Nat) (hn : 6 ≤ n) : goodT n f.enc = true := by
  obtain ⟨m, rfl⟩ : ∃ m, n = m + 1 + 4 + 1 := ⟨n - 6, by omega⟩
  unfold enS at h
  cases hs : sumS r with
  | none => rw [hs] at h; cases h
  | some v =>
    obtain ⟨⟨i, ps⟩, r1⟩ := v
    rw [hs] at h
    simp at h
    rw [← h.1]
    have hp : ps.length < 4611686018427387904 := by
      cases r with
      | nil => simp [sumS] at hs
      | cons w r0 =>
        rw [sumS_cons] at hs
        cases hn : num w with
        | none => rw [hn] at hs; cases hs
        | some z =>
          rw [hn] at hs
          simp only at hs
          cases hq : prsS [] r0 with
          | none => rw [hq] at hs; cases hs
          | some u =>
            obtain ⟨ps', r2⟩ := u
            rw [hq] at hs
            simp at hs
            have := prsS_len _ _ _ _ hq
            rw [hs.1.2] at this
            simp at this hl
            omega
    have hg := good_sm (m + 1) i ps hp
    cases k <;> simp [F.enc, goodT, goodTs, hg]
theorem ptS_good {p : List Str → Option (F × List Str)} (g : F → Bool) (hsuf : ∀ r f r', p r = some (f, r') → ∃ q, r = q ++ r' ∧ q ≠ []) (hp : ∀ r f r', p r = some (f, r') → r.length < 100000 → g f = true) : ∀ (c : Nat) (r : List Str) (fs : List F) (r' : List Str), ptS p c r = some (fs, r') → r.length < 100000 → ∀ f ∈ fs, g f = true
  | 0, r, fs, r', h, _ => by
    simp [ptS] at h
    rw [h.1]; simp
  | c + 1, r, fs, r', h, hl => by
    unfold ptS at h
    cases h1 : p r with
    | none => rw [h1] at h; cases h
    | some v =>
      obtain ⟨f, r1⟩ := v
      rw [h1] at h
      simp only at h
      cases h2 : ptS p c r1 with
      | none => rw [h2] at h; cases h
      | some u =>
        obtain ⟨gs, r2⟩ := u
        rw [h2] at h
        simp at h
        obtain ⟨q1, e1, hq⟩ := hsuf _ _ _ h1
        have hl1 : r1.length < 100000 := by rw [e1, List.length_append] at hl; omega
        have ih := ptS_good g hsuf hp c r1 gs r2 h2 hl1
        rw [← h.1]
        intro x hx
        rcases List.mem_cons.mp hx with e | hx
        · rw [e]; exact hp _ _ _ h1 hl
        · exact ih x hx
theorem stS_good : ∀ (d : Nat) (r : List Str) (f : F) (r' : List Str), stS d r = some (f, r') → r.length < 100000 → ∀ n, 2 * d + 6 ≤ n → goodT n f.enc = true
  | 0, r, f, r', h, _, n, hn => by simp [stS] at h
  | d + 1, [], f, r', h, _, n, hn => by simp [stS] at h
  | d + 1, k :: r, f, r', h, hl, n, hn => by
    have hl1 : r.length < 100000 := by simp at hl; omega
    obtain ⟨m, rfl⟩ : ∃ m, n = m + 2 := ⟨n - 2, by omega⟩
    have ih := stS_good d
    rw [stS_cons] at h
    by_cases k1 : k = "above"
    · rw [if_pos k1] at h; exact enS_good h hl1 _ (by omega)
    rw [if_neg k1] at h
    by_cases k2 : k = "nought"
    · rw [if_pos k2] at h; exact enS_good h hl1 _ (by omega)
    rw [if_neg k2] at h
    by_cases k3 : k = "goes"
    · rw [if_pos k3] at h
      cases r with
      | nil => cases h
      | cons w r2 =>
        simp only at h
        cases hn : num w with
        | none => rw [hn] at h; cases h
        | some z =>
          rw [hn] at h
          simp only at h
          split at h
          · exact enS_good h (by simp at hl1; omega) _ (by omega)
          · cases h
    rw [if_neg k3] at h
    by_cases k4 : k = "not"
    · rw [if_pos k4] at h
      cases hs : stS d r with
      | none => rw [hs] at h; cases h
      | some v =>
        obtain ⟨g, r1⟩ := v
        rw [hs] at h
        simp at h
        have hg := ih r g r1 hs hl1 (m + 1) (by omega)
        rw [← h.1]
        simp [F.enc, goodT, goodTs, hg]
    rw [if_neg k4] at h
    by_cases k5 : k = "and" ∨ k = "or"
    · rw [if_pos k5] at h
      cases r with
      | nil => cases h
      | cons w r2 =>
        simp only at h
        cases hn : num w with
        | none => rw [hn] at h; cases h
        | some z =>
          rw [hn] at h
          simp only at h
          split at h
          · cases hs : ptS (stS d) z.toNat r2 with
            | none => rw [hs] at h; cases h
            | some v =>
              obtain ⟨fs, r1⟩ := v
              rw [hs] at h
              simp at h
              have hl2 : r2.length < 100000 := by simp at hl1; omega
              have hsuf : ∀ r f r', stS d r = some (f, r') → ∃ q, r = q ++ r' ∧ q ≠ [] := stS_suf d
              have hlen := ptS_len hsuf _ _ _ _ hs
              have hg : ∀ f ∈ fs, goodT m f.enc = true := ptS_good (fun f => goodT m f.enc) hsuf (fun r f r' e hl => ih r f r' e hl m (by omega)) _ _ _ _ hs hl2
              have hgs : goodTs m (F.encs fs) = true := by
                rw [encs_map]
                have : ∀ fs : List F, (∀ f ∈ fs, goodT m f.enc = true) → goodTs m (fs.map F.enc) = true := by
                  intro fs
                  induction fs with
                  | nil => intro _; simp [goodTs]
                  | cons f fs ihf =>
                    intro hh
                    rw [List.map_cons]; unfold goodTs
                    rw [hh f (by simp), ihf fun y hy => hh y (List.mem_cons_of_mem _ hy)]; rfl
                exact this fs hg
              have hel : (F.encs fs).length < 4611686018427387904 := by rw [encs_map, List.length_map]; omega
              rw [← h.1]
              have hm1 : ∃ m', m = m' + 1 := ⟨m - 1, by omega⟩
              obtain ⟨m', rfl⟩ := hm1
              simp [F.enc, goodT, goodTs, hgs, hel]
          · cases h
    rw [if_neg k5] at h
    by_cases k6 : k = "some" ∨ k = "all"
    · rw [if_pos k6] at h
      cases r with
      | nil => cases h
      | cons w r2 =>
        simp only at h
        split at h
        · cases hs : stS d r2 with
          | none => rw [hs] at h; cases h
          | some v =>
            obtain ⟨g, r1⟩ := v
            rw [hs] at h
            simp at h
            have hg := ih r2 g r1 hs (by simp at hl1; omega) (m + 1) (by omega)
            rw [← h.1]
            simp [F.enc, goodT, goodTs, hg]
        · cases h
    · rw [if_neg k6] at h; cases h
end Pf

set_option Elab.async false
set_option linter.all false
set_option maxRecDepth 100000
set_option maxHeartbeats 4000000
namespace Pf
open PySem L2 TL
/-! ## a text that is read -/
theorem mem_joinL {S p : List Nat} {c : Nat} (hc : c ∈ p) : ∀ {ps : List (List Nat)}, p ∈ ps → c ∈ joinL S ps
  | [], h => by cases h
  | [q], h => by
    rw [List.mem_singleton] at h; subst h; exact hc
  | q :: r :: s, h => by
    show c ∈ q ++ (S ++ joinL S (r :: s))
    rcases List.mem_cons.mp h with e | h
    · subst e; simp [hc]
    · simp [mem_joinL hc h]
theorem wok_split (x : Str) (hok : PyData.strOk x = true) (hl : x.length ≤ 1000000) (hc : (Txt.split x " ").length < 100000) : Wok (Txt.split x " ") := by
  have hw := PyProof.Rows.split_weight x " " (by decide)
  have hj := StrLaws.join_split x " "
  refine ⟨fun w h => ?_, fun w h => ?_, hc⟩
  · have : w.length ≤ ((Txt.split x " ").map (·.length)).sum := PyProof.Rows.len_le_sum_of_mem h
    have := List.length_pos_of_mem h
    omega
  · unfold PyData.strOk at hok ⊢
    rw [Array.all_eq_true_iff_forall_mem] at hok ⊢
    intro c hc
    refine hok c ?_
    have h1 : c ∈ joinL (tl " ") ((Txt.split x " ").map tl) := mem_joinL (p := tl w) (Array.mem_toList_iff.mpr hc) (List.mem_map_of_mem h)
    rw [← tl_join, hj] at h1
    exact Array.mem_toList_iff.mp h1
theorem spl_eq (x : Str) (hl : x.length ≤ 1000000) {f : Ev → R D} {ρ : Ev} (hf : f ρ = .ok (.t (.str x))) : spl f (kS " ") ρ = .ok (.lst ((Txt.split x " ").map T.str)) := by
  have h1 : ((" " : Str).length == 0) = false := rfl
  have h2 : x.length + 2 ≤ 16777216 := by omega
  unfold spl
  rw [hf]
  show splitD x (.t (.str " ")) = _
  unfold splitD
  simp only
  rw [if_pos ⟨h1, h2⟩]
theorem read_eq (x : Str) (hok : PyData.strOk x = true) (hl : x.length ≤ 1000000) (hc : (Txt.split x " ").length < 100000) : m_read [.t (.str x)] = match stS 40 (Txt.split x " ") with
    | some (f, []) => .ok (.t f.enc)
    | _ => .raise 2 := by
  have hw := wok_split x hok hl hc
  unfold m_read g_read
  rw [runDef_Rt]
  have hs := spl_eq x hl (f := rdE 0) (ρ := [.d (.t (.str x)) false, .un, .un, .un]) rfl
  have hst := stP 40 (by omega) 100 0 (Txt.split x " ") (by omega) hw.len hw.cnt (Nat.zero_le _)
  rw [List.drop_zero] at hst
  generalize Txt.split x " " = ws at hs hst hw
  have e40 : (40 : Int) - ((40 : Nat) : Int) = 0 := by decide
  rw [e40] at hst
  have hcn := hw.cnt
  simp only [List.map_cons, List.map_nil, List.cons_append, List.nil_append, un_s, un_0]
  refine (Rt_seq (by unfold setO; rw [hs]; rfl)).trans ?_
  cases h : stS 40 ws with
  | none =>
    rw [h] at hst
    simp at hst
    simp [unpO, hst, Rt]
  | some v =>
    obtain ⟨f, r'⟩ := v
    rw [h] at hst
    simp at hst
    cases r' with
    | nil =>
      have hne : neD (.t (.int ((ws.length : Nat) : Int))) (.t (.int ((ws.length : Nat) : Int))) = .ok (.t (.bl false)) := by simp
      simp at hst
      simp [unpO, gNames, hst, retN, Rt]
    | cons w r2 =>
      obtain ⟨q, e, _⟩ := stS_suf 40 ws f (w :: r2) h
      have hlt : ¬ (((ws.length - (r2.length + 1) : Nat) : Int) = (ws.length : Int)) := by
        have := congrArg List.length e
        simp at this
        omega
      simp at hst
      simp [unpO, gNames, hst, hlt, Rt]
theorem law_read_eq (x : Str) (hok : PyData.strOk x = true) (hl : x.length ≤ 1000000) (hc : (Txt.split x " ").length < 100000) : m_law_read [.t (.str x)] = match stS 40 (Txt.split x " ") with
    | some (f, []) => .ok (.t (.tup [.str "statement", f.enc]))
    | _ => .ok (.t (.tup [.str "no note", .bl true])) := by
  have h := read_eq x hok hl hc
  unfold m_law_read g_law_read
  rw [runDef_Rt]
  have hw2 : wordOf 2 = "no note" := rfl
  cases hs : stS 40 (Txt.split x " ") with
  | none =>
    rw [hs] at h
    simp [h, hw2, Rt]
  | some v =>
    obtain ⟨f, r'⟩ := v
    rw [hs] at h
    cases r' with
    | nil => simp at h; simp [h, Rt]
    | cons w r2 => simp at h; simp [h, hw2, Rt]
theorem due_true (x : Str) (hok : PyData.strOk x = true) (hl : x.length ≤ 1000000) (hc : (Txt.split x " ").length < 100000) : m_law_is_due [.t (.str x)] = .ok (.t (.bl true)) := by
  have hw := wok_split x hok hl hc
  have hr := law_read_eq x hok hl hc
  unfold m_law_is_due g_law_is_due
  rw [runDef_Rt]
  have hs := spl_eq x hl (f := rdE 0) (ρ := [.d (.t (.str x)) false, .un]) rfl
  have hal := alP 40 (by omega) 100 (Txt.split x " ") (by omega) hw
  generalize Txt.split x " " = ws at hs hal hw hr
  have e40 : (40 : Int) - ((40 : Nat) : Int) = 0 := by decide
  rw [e40] at hal
  simp only [List.map_cons, List.map_nil, List.cons_append, List.nil_append, un_s, un_0]
  have hno := alike_self 100 (.tup [.str "no note", .bl true]) rfl
  have q0 : cA (spl (rdE 0) (kS " ")) (cA (kI 0) nA) [.d (.t (.str x)) false, .un] = .ok [.lst (ws.map T.str), .t (.int 0)] := by
    unfold cA
    rw [hs]; rfl
  cases h : stS 40 ws with
  | none =>
    rw [h] at hal hr
    simp at hal hr
    have q1 : setO 1 (ap (m_law_along 100) (cA (spl (rdE 0) (kS " ")) (cA (kI 0) nA))) [.d (.t (.str x)) false, .un] = .ok (.nx [.d (.t (.str x)) false, .d (.t .non) true]) := by
      unfold setO ap
      rw [q0]; simp only [R.ok_bind, hal]; rfl
    refine (Rt_seq q1).trans ?_
    simp [hr, hno]
  | some v =>
    obtain ⟨f, r'⟩ := v
    rw [h] at hal hr
    simp only at hal
    have q1 : setO 1 (ap (m_law_along 100) (cA (spl (rdE 0) (kS " ")) (cA (kI 0) nA))) [.d (.t (.str x)) false, .un] = .ok (.nx [.d (.t (.str x)) false, .d (.pr f.enc (r'.map T.str)) true]) := by
      unfold setO ap
      rw [q0]; simp only [R.ok_bind, hal]; rfl
    refine (Rt_seq q1).trans ?_
    obtain ⟨q, e, _⟩ := stS_suf 40 ws f r' h
    have hwr : Wok r' := Wok.suf (q := q) (e ▸ hw)
    obtain ⟨_, hne⟩ := eq_ok_nil r' hwr.ok
    have hg := stS_good 40 ws f r' h hw.cnt 99 (by omega)
    have hgt : goodT 100 (.tup [.str "statement", f.enc]) = true := by
      show goodT (99 + 1) _ = true
      unfold goodT
      simp only [goodTs, hg, Bool.and_true, Bool.and_eq_true]
      exact ⟨decide_eq_true (by simp), rfl⟩
    have hst := alike_self 100 _ hgt
    cases r' with
    | nil =>
      simp at hne hr
      simp [pr1, hne, hr, hst]
    | cons w r2 =>
      simp at hne hr
      simp [pr1, hne, hr, hno]
end Pf

set_option Elab.async false
set_option linter.all false
set_option maxRecDepth 100000
set_option maxHeartbeats 4000000
namespace Pf
open PySem L2
/-! ## the words of a statement -/
def nS (i : Int) : Str := toString i
def psW : Prs → List Str
  | [] => []
  | p :: r => nS p.2 :: p.1 :: psW r
def sumW (n : Int) (ps : Prs) : List Str := nS n :: (psW ps ++ [(";" : Str)])
mutual
def F.words : F → List Str
  | .e .above n ps => ("above" : Str) :: sumW n ps
  | .e .nought n ps => ("nought" : Str) :: sumW n ps
  | .e (.goes h) n ps => ("goes" : Str) :: nS h :: sumW n ps
  | .nt f => ("not" : Str) :: f.words
  | .nd b fs => bw b :: nS fs.length :: F.wordss fs
  | .qn b x f => qw b :: x :: f.words
def F.wordss : List F → List Str
  | [] => []
  | f :: fs => f.words ++ F.wordss fs
end
/-- a number that str tells -/
def Lg (i : Int) : Prop := i.natAbs.log2 < 1920
theorem str_lg {i : Int} (h : Lg i) : strD [.t (.int i)] = .ok (.t (.str (nS i))) := by
  show (if i.natAbs.log2 < 1920 then R.ok (D.t (T.str (nS i))) else R.stuck) = _
  rw [if_pos (show i.natAbs.log2 < 1920 from h)]
theorem lg_nat {n : Nat} (h : n < 2 ^ 64) : Lg (n : Int) := by
  unfold Lg
  rw [Int.natAbs_natCast]
  by_cases h0 : n = 0
  · subst h0; decide
  · exact Nat.lt_of_lt_of_le ((Nat.log2_lt h0).mpr h) (by decide)
def LgS (n : Int) (ps : Prs) : Prop := Lg n ∧ (∀ p ∈ ps, Lg p.2) ∧ ps.length ≤ 1000
theorem psW_len : ∀ ps : Prs, (psW ps).length = 2 * ps.length
  | [] => rfl
  | p :: r => by simp [psW, psW_len r]; omega
theorem sum_words_eq (n : Int) (ps : Prs) (h : LgS n ps) : m_sum_words [.t (smT n ps)] = .ok (.lst ((sumW n ps).map T.str)) := by
  obtain ⟨hn, hp, hl⟩ := h
  have loop : ∀ (ps : Prs) (acc : List T) (k : Sl), (∀ p ∈ ps, Lg p.2) → acc.length + 2 * ps.length ≤ 10000 → ∃ k', forR 2 (extO 1 (ap mkLst (cA (ap strD (cA (b2 ixD (rdE 2) (kI 1)) nA)) (cA (b2 ixD (rdE 2) (kI 0)) nA)))) (ps.map prT) [.d (.t (smT n ps)) false, .d (.lst acc) true, k] = .ok (.nx [.d (.t (smT n ps)) false, .d (.lst (acc ++ (psW ps).map T.str)) true, k']) := by
    intro ps0
    generalize hS : smT n ps0 = S
    clear hS
    revert S
    induction ps0 with
    | nil => intro S acc k _ _; exact ⟨k, by simp [forR, psW]⟩
    | cons p r ih =>
      intro S acc k hp hl
      have hs := str_lg (hp p (by simp))
      simp only [List.length_cons] at hl
      obtain ⟨k', e⟩ := ih S (acc ++ [.str (nS p.2), .str p.1]) (.d (.t (prT p)) true) (fun q hq => hp q (by simp [hq])) (by simp; omega)
      refine ⟨k', ?_⟩
      have hl2 : acc.length + 1 + 1 ≤ 16777216 := by omega
      have hix1 : ixD (.t (prT p)) (.t (.int 1)) = .ok (.t (.int p.2)) := by simp [prT]
      have hix0 : ixD (.t (prT p)) (.t (.int 0)) = .ok (.t (.str p.1)) := by simp [prT]
      simp [forR, extO, hix1, hix0, hs, hl2, psW, e]
  obtain ⟨k', e⟩ := loop ps [.str (nS n)] .un hp (by simp; omega)
  unfold m_sum_words g_sum_words
  rw [runDef_Rt]
  have hs := str_lg hn
  have hix0 : ixD (.t (smT n ps)) (.t (.int 0)) = .ok (.t (.int n)) := by simp [smT]
  have hix1 : ixD (.t (smT n ps)) (.t (.int 1)) = .ok (.t (.tup (ps.map prT))) := by simp [smT]
  have hl3 : (psW ps).length + 1 + 1 ≤ 16777216 := by rw [psW_len]; omega
  simp [hix0, hix1, hs, e, addD, hl3, sumW]
theorem law_sum_words_eq (n : Int) (ps : Prs) (h : LgS n ps) : m_law_sum_words [.t (smT n ps)] = .ok (.lst ((sumW n ps).map T.str)) := by
  obtain ⟨hn, hp, hl⟩ := h
  have loop : ∀ (ps : Prs) (S : T) (acc : List T) (k : Sl), (∀ p ∈ ps, Lg p.2) → acc.length + 2 * ps.length ≤ 10000 → ∃ k', forR 2 (setO 1 (b2 addD (rdE 1) (ap mkLst (cA (ap strD (cA (b2 ixD (rdE 2) (kI 1)) nA)) (cA (b2 ixD (rdE 2) (kI 0)) nA))))) (ps.map prT) [.d (.t S) false, .d (.lst acc) true, k] = .ok (.nx [.d (.t S) false, .d (.lst (acc ++ (psW ps).map T.str)) true, k']) := by
    intro ps0
    induction ps0 with
    | nil => intro S acc k _ _; exact ⟨k, by simp [forR, psW]⟩
    | cons p r ih =>
      intro S acc k hp hl
      have hs := str_lg (hp p (by simp))
      simp only [List.length_cons] at hl
      obtain ⟨k', e⟩ := ih S (acc ++ [.str (nS p.2), .str p.1]) (.d (.t (prT p)) true) (fun q hq => hp q (by simp [hq])) (by simp; omega)
      refine ⟨k', ?_⟩
      have hl2 : acc.length + 1 + 1 ≤ 16777216 := by omega
      have hix1 : ixD (.t (prT p)) (.t (.int 1)) = .ok (.t (.int p.2)) := by simp [prT]
      have hix0 : ixD (.t (prT p)) (.t (.int 0)) = .ok (.t (.str p.1)) := by simp [prT]
      simp [forR, addD, hix1, hix0, hs, hl2, psW, e]
  obtain ⟨k', e⟩ := loop ps (smT n ps) [.str (nS n)] .un hp (by simp; omega)
  unfold m_law_sum_words g_law_sum_words
  rw [runDef_Rt]
  have hs := str_lg hn
  have hix0 : ixD (.t (smT n ps)) (.t (.int 0)) = .ok (.t (.int n)) := by simp [smT]
  have hix1 : ixD (.t (smT n ps)) (.t (.int 1)) = .ok (.t (.tup (ps.map prT))) := by simp [smT]
  have hl3 : (psW ps).length + 1 + 1 ≤ 16777216 := by rw [psW_len]; omega
  simp [hix0, hix1, hs, e, addD, hl3, sumW]
end Pf

set_option Elab.async false
set_option linter.all false
set_option maxRecDepth 100000
set_option maxHeartbeats 4000000
namespace Pf
open PySem L2
/-- a statement whose numbers str tells -/
def LgE (k : EK) (n : Int) (ps : Prs) : Prop := LgS n ps ∧ ∀ h, k = .goes h → Lg h
theorem wordss_mem {f : F} : ∀ {fs : List F}, f ∈ fs → f.words.length ≤ (F.wordss fs).length
  | g :: fs, h => by
    simp only [F.wordss, List.length_append]
    rcases List.mem_cons.mp h with e | h
    · subst e; omega
    · have := wordss_mem h; omega
theorem wordss_len : ∀ fs : List F, (∀ f ∈ fs, 1 ≤ f.words.length) → fs.length ≤ (F.wordss fs).length
  | [], _ => by simp
  | f :: fs, h => by
    have h1 := h f (by simp)
    have h2 := wordss_len fs fun g hg => h g (by simp [hg])
    simp only [F.wordss, List.length_append, List.length_cons]; omega
theorem words_pos : ∀ f : F, 1 ≤ f.words.length
  | .e k n ps => by cases k <;> simp [F.words]
  | .nt f => by simp [F.words]
  | .nd b fs => by simp [F.words]
  | .qn b x f => by simp [F.words]
theorem words_of_eq : ∀ (n : Nat) (f : F), f.dep ≤ n → f.all LgE → f.words.length ≤ 100000 → m_words_of n [.t f.enc] = .ok (.lst (f.words.map T.str)) ∧ m_law_words n [.t f.enc] = .ok (.lst (f.words.map T.str))
  | 0, f, hd, _, _ => by cases f <;> simp [F.dep] at hd
  | n + 1, f, hd, ha, hl => by
    have ih := words_of_eq n
    show runDef 3 (g_words_of (m_words_of n)) _ = _ ∧ runDef 3 (g_law_words (m_law_words n)) _ = _
    unfold g_words_of g_law_words
    rw [runDef_Rt, runDef_Rt]
    cases f with
    | e k i ps =>
      simp only [F.all] at ha
      obtain ⟨hs, hg⟩ := ha
      have h1 := sum_words_eq i ps hs
      have h2 := law_sum_words_eq i ps hs
      have hl3 : (sumW i ps).length ≤ 3000 := by
        have := hs.2.2
        simp [sumW, psW_len]; omega
      cases k with
      | above =>
        have hl4 : (sumW i ps).length + 1 ≤ 16777216 := by omega
        have hl5 : 1 + (sumW i ps).length ≤ 16777216 := by omega
        constructor
        · simp [F.enc, h1, addD, hl4, hl5, F.words]
        · simp [F.enc, h2, addD, hl4, hl5, F.words]
      | nought =>
        have hl4 : (sumW i ps).length + 1 ≤ 16777216 := by omega
        have hl5 : 1 + (sumW i ps).length ≤ 16777216 := by omega
        constructor
        · simp [F.enc, h1, addD, hl4, hl5, F.words]
        · simp [F.enc, h2, addD, hl4, hl5, F.words]
      | goes h =>
        have hh := str_lg (hg h rfl)
        have hl4 : (sumW i ps).length + 1 + 1 ≤ 16777216 := by omega
        have hl5 : 1 + 1 + (sumW i ps).length ≤ 16777216 := by omega
        constructor
        · simp [F.enc, h1, hh, addD, hl4, hl5, F.words]
        · simp [F.enc, h2, hh, addD, hl4, hl5, F.words]
    | nt f =>
      simp only [F.dep] at hd
      simp only [F.all] at ha
      simp only [F.words, List.length_cons] at hl
      obtain ⟨h1, h2⟩ := ih f (by omega) ha (by omega)
      have hl4 : f.words.length + 1 ≤ 16777216 := by omega
      have hl5 : 1 + f.words.length ≤ 16777216 := by omega
      constructor
      · simp [F.enc, h1, addD, hl4, hl5, F.words]
      · simp [F.enc, h2, addD, hl4, hl5, F.words]
    | qn b x f =>
      simp only [F.dep] at hd
      simp only [F.all] at ha
      simp only [F.words, List.length_cons] at hl
      obtain ⟨h1, h2⟩ := ih f (by omega) ha (by omega)
      have hl4 : f.words.length + 1 + 1 ≤ 16777216 := by omega
      have hl5 : 1 + 1 + f.words.length ≤ 16777216 := by omega
      cases b
      · constructor
        · simp [F.enc, h1, addD, hl4, hl5, F.words]
        · simp [F.enc, h2, addD, hl4, hl5, F.words]
      · constructor
        · simp [F.enc, h1, addD, hl4, hl5, F.words]
        · simp [F.enc, h2, addD, hl4, hl5, F.words]
    | nd b fs =>
      simp only [F.dep] at hd
      simp only [F.all] at ha
      simp only [F.words, List.length_cons] at hl
      have hfl := wordss_len fs fun f _ => words_pos f
      have hsn := str_lg (lg_nat (n := fs.length) (by omega))
      have hall : ∀ f ∈ fs, m_words_of n [.t f.enc] = .ok (.lst (f.words.map T.str)) ∧ m_law_words n [.t f.enc] = .ok (.lst (f.words.map T.str)) := fun f hf => ih f (by have := deps_mem hf; omega) (alls_mem ha hf) (by have := wordss_mem hf; omega)
      have loop1 : ∀ (gs : List F) (S : T) (w : Str) (acc : List T) (k : Sl), (∀ f ∈ gs, m_words_of n [.t f.enc] = .ok (.lst (f.words.map T.str))) → acc.length + (F.wordss gs).length ≤ 16777216 → ∃ k', forR 3 (extO 2 (ap (m_words_of n) (cA (rdE 3) nA))) (gs.map F.enc) [.d (.t S) false, .d (.t (.str w)) true, .d (.lst acc) true, k] = .ok (.nx [.d (.t S) false, .d (.t (.str w)) true, .d (.lst (acc ++ (F.wordss gs).map T.str)) true, k']) := by
        intro gs
        induction gs with
        | nil => intro S w acc k _ _; exact ⟨k, by simp [forR, F.wordss]⟩
        | cons g r ihg =>
          intro S w acc k hp hl
          have hg := hp g (by simp)
          simp only [F.wordss, List.length_append] at hl
          obtain ⟨k', e⟩ := ihg S w (acc ++ g.words.map T.str) (.d (.t g.enc) true) (fun q hq => hp q (by simp [hq])) (by simp; omega)
          have hl2 : acc.length + g.words.length ≤ 16777216 := by omega
          exact ⟨k', by simp [forR, extO, hg, hl2, F.wordss] at e ⊢; exact e⟩
      have loop2 : ∀ (gs : List F) (S : T) (w : Str) (acc : List T) (k : Sl), (∀ f ∈ gs, m_law_words n [.t f.enc] = .ok (.lst (f.words.map T.str))) → acc.length + (F.wordss gs).length ≤ 16777216 → ∃ k', forR 3 (setO 2 (b2 addD (rdE 2) (ap (m_law_words n) (cA (rdE 3) nA)))) (gs.map F.enc) [.d (.t S) false, .d (.t (.str w)) true, .d (.lst acc) true, k] = .ok (.nx [.d (.t S) false, .d (.t (.str w)) true, .d (.lst (acc ++ (F.wordss gs).map T.str)) true, k']) := by
        intro gs
        induction gs with
        | nil => intro S w acc k _ _; exact ⟨k, by simp [forR, F.wordss]⟩
        | cons g r ihg =>
          intro S w acc k hp hl
          have hg := hp g (by simp)
          simp only [F.wordss, List.length_append] at hl
          obtain ⟨k', e⟩ := ihg S w (acc ++ g.words.map T.str) (.d (.t g.enc) true) (fun q hq => hp q (by simp [hq])) (by simp; omega)
          have hl2 : acc.length + g.words.length ≤ 16777216 := by omega
          exact ⟨k', by simp [forR, addD, hg, hl2, F.wordss] at e ⊢; exact e⟩
      obtain ⟨k1, e1⟩ := loop1 fs (.tup [.str (bw b), .tup (fs.map F.enc)]) (bw b) [.str (bw b), .str (nS fs.length)] .un (fun f hf => (hall f hf).1) (by simp; omega)
      obtain ⟨k2, e2⟩ := loop2 fs (.tup [.str (bw b), .tup (fs.map F.enc)]) (bw b) [.str (bw b), .str (nS fs.length)] .un (fun f hf => (hall f hf).2) (by simp; omega)
      have hb : bw b = "and" ∨ bw b = "or" := by cases b <;> simp
      constructor
      · cases b
        · simp [F.enc, encs_map, hsn, e1, retN, F.words, Rt] at e1 ⊢
          simp [e1, retN]
        · simp [F.enc, encs_map, hsn, e1, retN, F.words, Rt] at e1 ⊢
          simp [e1, retN]
      · cases b
        · simp [F.enc, encs_map, hsn, e2, retN, F.words, Rt] at e2 ⊢
          simp [e2, retN]
        · simp [F.enc, encs_map, hsn, e2, retN, F.words, Rt] at e2 ⊢
          simp [e2, retN]
end Pf

set_option Elab.async false
set_option linter.all false
set_option maxRecDepth 100000
set_option maxHeartbeats 4000000
namespace Pf
open PySem L2
/-! ## how deep a statement lies -/
theorem asInts_mapF (g : F → Int) : ∀ fs : List F, asInts (fs.map fun f => T.int (g f)) = some (fs.map g)
  | [] => rfl
  | f :: fs => by simp [asInts, asInts_mapF g fs]
theorem max_deps : ∀ (fs : List F) (a : Nat), (fs.map fun f => (f.dep : Int)).foldl (fun a y => if PySem.W.DatumOrd.lt a y = true then y else a) (a : Int) = ((max a (F.deps fs) : Nat) : Int)
  | [], a => by simp [F.deps]
  | f :: fs, a => by
    rw [List.map_cons, List.foldl_cons]
    have h : (if PySem.W.DatumOrd.lt (a : Int) (f.dep : Int) = true then (f.dep : Int) else (a : Int)) = ((max a f.dep : Nat) : Int) := by
      show (if decide ((a : Int) < (f.dep : Int)) = true then (f.dep : Int) else (a : Int)) = _
      by_cases h : (a : Int) < (f.dep : Int)
      · rw [if_pos (decide_eq_true h)]; omega
      · rw [if_neg (by simpa using h)]; omega
    rw [h, max_deps fs (max a f.dep)]
    simp only [F.deps]
    congr 1
    omega
theorem max_parts (fs : List F) : maxI 0 (fs.map fun f => (f.dep : Int)) = (F.deps fs : Int) := by
  cases fs with
  | nil => rfl
  | cons f fs =>
    show (fs.map fun f => (f.dep : Int)).foldl _ (f.dep : Int) = _
    rw [max_deps fs f.dep]
    simp only [F.deps]
theorem within_eq : ∀ (n : Nat) (f : F), f.dep ≤ n → f.wid ≤ 1000 → m_law_within n [.t f.enc] = .ok (.t (.int (f.dep : Int)))
  | 0, f, hd, _ => by cases f <;> simp [F.dep] at hd
  | n + 1, f, hd, hw => by
    have ih := within_eq n
    show runDef 2 (g_law_within (m_law_within n)) _ = _
    unfold g_law_within
    rw [runDef_Rt]
    cases f with
    | e k i ps => cases k <;> simp [F.enc, F.dep]
    | nt f =>
      simp only [F.dep] at hd
      simp only [F.wid] at hw
      have h1 := ih f (by omega) hw
      simp [F.enc, h1, F.dep]; omega
    | qn b x f =>
      simp only [F.dep] at hd
      simp only [F.wid] at hw
      have h1 := ih f (by omega) hw
      cases b
      · simp [F.enc, h1, F.dep]; omega
      · simp [F.enc, h1, F.dep]; omega
    | nd b fs =>
      simp only [F.dep] at hd
      simp only [F.wid] at hw
      have hlen : fs.length ≤ 16777216 := by omega
      have hlc : ∀ ρ : Ev, 2 < ρ.length → lcR 2 yes (ap (m_law_within n) (cA (rdE 2) nA)) ρ (fs.map F.enc) = .ok (fs.map fun f => T.int (f.dep : Int)) := by
        intro ρ hρ
        have hall : ∀ f ∈ fs, m_law_within n [.t f.enc] = .ok (.t (.int (f.dep : Int))) := fun f hf => ih f (by have := deps_mem hf; omega) (by have := wids_mem hf; omega)
        clear hd hw hlen
        induction fs with
        | nil => rfl
        | cons f fs ihf =>
          have h1 := hall f (by simp)
          have h2 := ihf fun g hg => hall g (by simp [hg])
          simp only [List.map_cons, lcR]
          rw [h2]
          have hrd : rdE 2 (ρ.set 2 (.d (.t f.enc) true)) = .ok (.t f.enc) := by
            unfold rdE
            rw [List.getElem?_set_self hρ]
          simp [hrd, h1]
      have hmx := max_parts fs
      have hai := asInts_mapF (fun f => (f.dep : Int)) fs
      cases b
      · simp [F.enc, encs_map, hlen, hlc, NR, mDefD, hai, hmx, F.dep]; omega
      · simp [F.enc, encs_map, hlen, hlc, NR, mDefD, hai, hmx, F.dep]; omega
end Pf

set_option Elab.async false
set_option linter.all false
set_option maxRecDepth 100000
set_option maxHeartbeats 4000000
namespace Pf
open PySem L2
/-! ## a number's word is read back -/
def dg (m : Nat) : List Nat := (Nat.toDigits 10 m).map Char.toNat
theorem dg_char : ∀ d : Nat, d < 10 → (Nat.digitChar d).toNat = 48 + d := by decide
theorem dg_small (m : Nat) (h : m < 10) : dg m = [48 + m] := by
  unfold dg
  rw [Nat.toDigits_of_lt_base h, List.map_cons, dg_char m h]; rfl
theorem dg_step (m : Nat) (h : 10 ≤ m) : dg m = dg (m / 10) ++ [48 + m % 10] := by
  have hm : m % 10 < 10 := Nat.mod_lt m (by decide)
  have t : Nat.toDigits 10 (m / 10) ++ Nat.toDigits 10 (m % 10) = Nat.toDigits 10 (10 * (m / 10) + m % 10) := Nat.toDigits_append_toDigits (by decide) (by omega) hm
  rw [Nat.div_add_mod] at t
  rw [← dg_small (m % 10) hm]
  unfold dg
  rw [← t, List.map_append]
theorem dg_ne (m : Nat) : dg m ≠ [] := by
  intro e
  have := PySem.toDigits_len_ge 10 m
  unfold dg at e
  rw [List.map_eq_nil_iff.mp e] at this
  exact absurd this (by decide)
theorem dg_rng (m : Nat) : ∀ c ∈ dg m, 48 ≤ c ∧ c ≤ 57 := by
  induction m using Nat.strongRecOn with
  | _ m ih =>
    by_cases h : m < 10
    · rw [dg_small m h]; intro c hc; simp at hc; omega
    · rw [dg_step m (by omega)]
      intro c hc
      rcases List.mem_append.mp hc with hc | hc
      · exact ih (m / 10) (by omega) c hc
      · simp at hc; omega
theorem dg_head (m : Nat) (h0 : m ≠ 0) : (dg m).head? ≠ some 48 := by
  induction m using Nat.strongRecOn with
  | _ m ih =>
    by_cases h : m < 10
    · rw [dg_small m h]; simp; exact h0
    · rw [dg_step m (by omega)]
      have := ih (m / 10) (by omega) (by omega)
      have hn := dg_ne (m / 10)
      cases hd : dg (m / 10) with
      | nil => exact absurd hd hn
      | cons c r => rw [hd] at this; simpa using this
theorem dg_len (m : Nat) (h : m < 10 ^ 60) : (dg m).length ≤ 60 := by
  unfold dg
  rw [List.length_map]
  exact PySem.toDigits_len_pow (by decide) (by decide) h
theorem dg_val (m : Nat) : PySem.NumText.digitsVal (dg m) = m := PySem.W.KIN.val_back m
theorem nS_pos (m : Nat) : (nS (m : Int)).cps.toList = dg m := PySem.W.KIN.signs_num m
theorem nS_neg (m : Nat) : (nS (Int.negSucc m)).cps.toList = 45 :: dg (m + 1) := by
  show (PySem.Str.ofString (toString (Int.negSucc m))).cps.toList = _
  rw [PyProof.Rows.signs_ofString]
  show ("-" ++ Nat.repr (m + 1)).toList.map Char.toNat = _
  rw [String.toList_append, List.map_append, Nat.toList_repr]
  rfl
theorem num_nS (i : Int) (h : i.natAbs < 10 ^ 60) : num (nS i) = some i := by
  cases i with
  | ofNat m =>
    have hc : (nS (Int.ofNat m)).cps.toList = dg m := nS_pos m
    have hr := dg_rng m
    have hn := dg_ne m
    have hl := dg_len m h
    have hll : (nS (Int.ofNat m)).cps.toList.length = (nS (Int.ofNat m)).length := Array.length_toList
    have hb : bodyL (dg m) = dg m := by
      unfold bodyL
      rw [if_neg]
      intro e
      have : (45 : Nat) ∈ dg m := List.mem_of_mem_take (i := 1) (by rw [e]; simp)
      have := hr 45 this
      omega
    have hok : numOk (nS (Int.ofNat m)).cps.toList := by
      rw [hc]
      refine ⟨by rw [hb]; exact hn, by rw [hb]; exact hl, ?_, ?_, by rw [hb]; exact hr⟩
      · intro e
        have := hr 45 (by rw [e]; simp)
        omega
      · rw [hb]
        intro ⟨e1, e2⟩
        by_cases h0 : m = 0
        · subst h0; rw [dg_small 0 (by decide)] at e2; simp at e2
        · exact dg_head m h0 e1
    unfold num
    rw [if_pos hok]
    rw [hc] at hll
    have := PySem.intText_digits (x := nS (Int.ofNat m)) (by rw [hc]; exact hr) (by rw [hc]; exact hn) (by omega)
    rw [hc, dg_val] at this
    exact this
  | negSucc m =>
    have hc := nS_neg m
    have hr := dg_rng (m + 1)
    have hn := dg_ne (m + 1)
    have hl := dg_len (m + 1) h
    have hll : (nS (Int.negSucc m)).cps.toList.length = (nS (Int.negSucc m)).length := Array.length_toList
    have hb : bodyL (45 :: dg (m + 1)) = dg (m + 1) := by unfold bodyL; rw [if_pos (by simp)]; rfl
    have hok : numOk (nS (Int.negSucc m)).cps.toList := by
      rw [hc]
      refine ⟨by rw [hb]; exact hn, by rw [hb]; exact hl, ?_, ?_, by rw [hb]; exact hr⟩
      · intro e
        have e2 := dg_head (m + 1) (by omega)
        simp at e
        rw [e] at e2
        simp at e2
      · rw [hb]
        intro ⟨e1, _⟩
        exact dg_head (m + 1) (by omega) e1
    unfold num
    rw [if_pos hok]
    rw [hc, List.length_cons] at hll
    have := PySem.intText_neg hc hr hn (by omega)
    rw [dg_val] at this
    exact this
end Pf

set_option Elab.async false
set_option linter.all false
set_option maxRecDepth 100000
set_option maxHeartbeats 4000000
namespace Pf
open PySem L2
/-! ## the words of a statement are read back -/
def Up (ps : Prs) : Prop := ps.Pairwise fun a b => leS b.1 a.1 = false
def Ten60 (i : Int) : Prop := i.natAbs < 10 ^ 60
def FineS (n : Int) (ps : Prs) : Prop := Ten60 n ∧ Up ps ∧ ∀ p ∈ ps, Nm p.1 ∧ p.2 ≠ 0 ∧ Ten60 p.2
def FineE (k : EK) (n : Int) (ps : Prs) : Prop := FineS n ps ∧ ∀ h, k = .goes h → 1 ≤ h ∧ Ten60 h
mutual
def F.fine : F → Prop
  | .e k n ps => FineE k n ps
  | .nt f => f.fine
  | .nd _ fs => fs.length < 10 ^ 60 ∧ F.fines fs
  | .qn _ x f => Nm x ∧ f.fine
def F.fines : List F → Prop
  | [] => True
  | f :: fs => f.fine ∧ F.fines fs
end
theorem num_semi : num ";" = none := by
  refine num_none fun h => ?_
  have := h.2.2.2.2 59 (by rw [semi_eq, sl_cps]; decide)
  omega
theorem nS_semi {i : Int} (h : Ten60 i) : ¬ nS i = ";" := by
  intro e
  have := num_nS i h
  rw [e, num_semi] at this
  cases this
theorem prsS_words : ∀ (ps acc : Prs) (rest : List Str), Up (acc ++ ps) → (∀ p ∈ ps, Nm p.1 ∧ p.2 ≠ 0 ∧ Ten60 p.2) → prsS acc (psW ps ++ (";" : Str) :: rest) = some (acc ++ ps, rest)
  | [], acc, [], _, _ => by simp [psW, prsS]
  | [], acc, x :: r, _, _ => by simp [psW, prsS]
  | p :: r, acc, rest, hu, hp => by
    obtain ⟨h1, h2, h3⟩ := hp p (by simp)
    have hs := nS_semi h3
    have hn := num_nS p.2 h3
    have hm := isNm_iff.mpr h1
    have hok : okn acc p.1 = true := by
      unfold okn
      cases hl : acc.getLast? with
      | none => rfl
      | some q =>
        have hq : q ∈ acc := List.mem_of_getLast? hl
        have := (List.pairwise_append.mp hu).2.2 q hq p (by simp)
        simp [this]
    have ih := prsS_words r (acc ++ [p]) rest (by simpa using hu) fun q hq => hp q (by simp [hq])
    show prsS acc (nS p.2 :: p.1 :: (psW r ++ (";" : Str) :: rest)) = _
    unfold prsS
    rw [if_neg hs, hn]
    simp only
    rw [if_pos ⟨h2, hm, hok⟩]
    rw [ih]
    simp
theorem sumS_words {n : Int} {ps : Prs} (h : FineS n ps) (rest : List Str) : sumS (sumW n ps ++ rest) = some ((n, ps), rest) := by
  obtain ⟨h1, h2, h3⟩ := h
  have hn := num_nS n h1
  have hp := prsS_words ps [] rest (by simpa using h2) h3
  show sumS (nS n :: ((psW ps ++ [(";" : Str)]) ++ rest)) = _
  rw [sumS_cons, hn, List.append_assoc]
  simp only [List.singleton_append]
  rw [hp]
  simp
theorem enS_words {k : EK} {n : Int} {ps : Prs} (h : FineS n ps) (rest : List Str) : enS k (sumW n ps ++ rest) = some (.e k n ps, rest) := by
  unfold enS
  rw [sumS_words h rest]
theorem ten_len {n : Nat} (h : n < 10 ^ 60) : num (nS (n : Int)) = some (n : Int) := num_nS n (by rw [Int.natAbs_natCast]; exact h)
mutual
theorem stS_words : ∀ (f : F) (d : Nat) (rest : List Str), f.dep ≤ d → f.fine → stS d (f.words ++ rest) = some (f, rest)
  | f, 0, rest, hd, _ => by cases f <;> simp [F.dep] at hd
  | .e k n ps, d + 1, rest, _, hf => by
    simp only [F.fine] at hf
    obtain ⟨hs, hg⟩ := hf
    cases k with
    | above =>
      simp only [F.words, List.cons_append]
      rw [stS_cons, if_pos rfl]; exact enS_words hs rest
    | nought =>
      simp only [F.words, List.cons_append]
      rw [stS_cons, if_neg (by decide), if_pos rfl]; exact enS_words hs rest
    | goes h =>
      obtain ⟨g1, g2⟩ := hg h rfl
      simp only [F.words, List.cons_append]
      rw [stS_cons, if_neg (by decide), if_neg (by decide), if_pos rfl]
      simp only [num_nS h g2]
      rw [if_pos g1]; exact enS_words hs rest
  | .nt f, d + 1, rest, hd, hf => by
    simp only [F.dep] at hd
    simp only [F.fine] at hf
    have := stS_words f d rest (by omega) hf
    simp only [F.words, List.cons_append]
    rw [stS_cons, if_neg (by decide), if_neg (by decide), if_neg (by decide), if_pos rfl, this]
  | .nd b fs, d + 1, rest, hd, hf => by
    simp only [F.dep] at hd
    simp only [F.fine] at hf
    have := ptS_words fs d rest (by omega) hf.2
    have hn := ten_len hf.1
    simp only [F.words, List.cons_append]
    cases b with
    | true =>
      rw [bw_t, stS_cons, if_neg (by decide), if_neg (by decide), if_neg (by decide), if_neg (by decide), if_pos (by simp)]
      simp only [hn]
      rw [if_pos (by omega), Int.toNat_natCast, this]
      simp
    | false =>
      have hd2 : decide (("or" : Str) = "and") = false := by decide
      rw [bw_f, stS_cons, if_neg (by decide), if_neg (by decide), if_neg (by decide), if_neg (by decide), if_pos (by simp)]
      simp only [hn]
      rw [if_pos (by omega), Int.toNat_natCast, this]
      simp only [hd2]
  | .qn b x f, d + 1, rest, hd, hf => by
    simp only [F.dep] at hd
    simp only [F.fine] at hf
    have := stS_words f d rest (by omega) hf.2
    have hx := isNm_iff.mpr hf.1
    simp only [F.words, List.cons_append]
    cases b with
    | true =>
      rw [qw_t, stS_cons, if_neg (by decide), if_neg (by decide), if_neg (by decide), if_neg (by decide), if_neg (by decide), if_pos (by simp)]
      simp only
      rw [if_pos hx, this]
      simp
    | false =>
      have hd2 : decide (("all" : Str) = "some") = false := by decide
      rw [qw_f, stS_cons, if_neg (by decide), if_neg (by decide), if_neg (by decide), if_neg (by decide), if_neg (by decide), if_pos (by simp)]
      simp only
      rw [if_pos hx, this]
      simp only [hd2]
theorem ptS_words : ∀ (fs : List F) (d : Nat) (rest : List Str), F.deps fs ≤ d → F.fines fs → ptS (stS d) fs.length (F.wordss fs ++ rest) = some (fs, rest)
  | [], d, rest, _, _ => by simp [ptS, F.wordss]
  | f :: fs, d, rest, hd, hf => by
    simp only [F.deps] at hd
    simp only [F.fines] at hf
    have h1 := stS_words f d (F.wordss fs ++ rest) (by omega) hf.1
    have h2 := ptS_words fs d rest (by omega) hf.2
    simp only [F.wordss, List.length_cons, ptS, List.append_assoc]
    rw [h1]
    simp only [h2]
end
end Pf

set_option Elab.async false
set_option linter.all false
set_option maxRecDepth 100000
set_option maxHeartbeats 4000000
namespace Pf
open PySem L2 TL
/-! ## words without blanks -/
def Cl (w : Str) : Prop := w.length ≤ 62 ∧ ∀ c ∈ w.cps.toList, 33 ≤ c ∧ c ≤ 127
theorem blank_tl : tl (" " : Str) = 32 :: [] := by decide +kernel
theorem split_cl {ws : List Str} (hne : ws ≠ []) (h : ∀ w ∈ ws, Cl w) : Txt.split (Txt.join " " ws) " " = ws :=
  split_join blank_tl (by decide +kernel) hne fun p hp hin => by
    have := (h p hp).2 32 hin
    omega
theorem join_len : ∀ (ws : List Str), (∀ w ∈ ws, Cl w) → (Str.join " " ws).length ≤ 63 * ws.length
  | [], _ => by simp [Str.join, Str.empty, Str.length]
  | [x], h => by
    have := (h x (by simp)).1
    show x.length ≤ _
    simp; omega
  | x :: y :: r, h => by
    have h1 := (h x (by simp)).1
    have ih := join_len (y :: r) fun w hw => h w (List.mem_cons_of_mem _ hw)
    have hb : (" " : Str).length = 1 := by decide +kernel
    show (x ++ " " ++ Str.join " " (y :: r)).length ≤ _
    rw [Str.length_append, Str.length_append, hb]
    simp only [List.length_cons] at ih ⊢
    omega
theorem join_rng : ∀ (ws : List Str), (∀ w ∈ ws, Cl w) → ∀ c ∈ (Str.join " " ws).cps.toList, 32 ≤ c ∧ c ≤ 127
  | [], _ => by
    intro c hc
    have : (Str.join " " ([] : List Str)).cps.toList = [] := rfl
    rw [this] at hc; cases hc
  | [x], h => fun c hc => by
    have := (h x (by simp)).2 c hc
    omega
  | x :: y :: r, h => fun c hc => by
    have ih := join_rng (y :: r) fun w hw => h w (List.mem_cons_of_mem _ hw)
    have e : tl (x ++ " " ++ Str.join " " (y :: r)) = tl x ++ (tl " " ++ tl (Str.join " " (y :: r))) := by
      show (x ++ " " ++ Str.join " " (y :: r)).cps.toList = _
      rw [Str.cps_append, Str.cps_append, Array.toList_append, Array.toList_append, List.append_assoc]
    have hc' : c ∈ tl (x ++ " " ++ Str.join " " (y :: r)) := hc
    rw [e, blank_tl] at hc'
    rcases List.mem_append.mp hc' with q | q
    · have := (h x (by simp)).2 c q
      omega
    · rcases List.mem_append.mp q with q | q
      · simp at q; omega
      · exact ih c q
theorem rng_ok {x : Str} (h : ∀ c ∈ x.cps.toList, c ≤ 127) : PyData.strOk x = true := by
  unfold PyData.strOk
  rw [Array.all_eq_true_iff_forall_mem]
  intro c hc
  have := h c (Array.mem_toList_iff.mpr hc)
  exact decide_eq_true (by omega)
theorem cl_nS {i : Int} (h : Ten60 i) : Cl (nS i) := by
  have hll : (nS i).cps.toList.length = (nS i).length := Array.length_toList
  cases i with
  | ofNat m =>
    have hc : (nS (Int.ofNat m)).cps.toList = dg m := nS_pos m
    have hl := dg_len m h
    refine ⟨by rw [hc] at hll; omega, fun c hc' => ?_⟩
    rw [hc] at hc'
    have := dg_rng m c hc'
    omega
  | negSucc m =>
    have hc := nS_neg m
    have hl := dg_len (m + 1) h
    refine ⟨by rw [hc, List.length_cons] at hll; omega, fun c hc' => ?_⟩
    rw [hc] at hc'
    rcases List.mem_cons.mp hc' with e | q
    · omega
    · have := dg_rng (m + 1) c q
      omega
theorem cl_nm {x : Str} (h : Nm x) : Cl x := by
  have hll : x.cps.toList.length = x.length := Array.length_toList
  refine ⟨by have := h.2.1; omega, fun c hc => ?_⟩
  have := h.2.2 c hc
  omega
def clB (w : Str) : Bool := decide (w.length ≤ 62) && w.cps.toList.all fun c => decide (33 ≤ c) && decide (c ≤ 127)
theorem cl_of {w : Str} (h : clB w = true) : Cl w := by
  unfold clB at h
  simp only [Bool.and_eq_true, decide_eq_true_eq, List.all_eq_true] at h
  exact h
theorem cl_semi : Cl ";" := cl_of (by decide +kernel)
theorem cl_psW : ∀ ps : Prs, (∀ p ∈ ps, Nm p.1 ∧ p.2 ≠ 0 ∧ Ten60 p.2) → ∀ w ∈ psW ps, Cl w
  | [], _ => by simp [psW]
  | p :: r, h => by
    intro w hw
    simp only [psW, List.mem_cons] at hw
    rcases hw with e | e | hw
    · rw [e]; exact cl_nS (h p (by simp)).2.2
    · rw [e]; exact cl_nm (h p (by simp)).1
    · exact cl_psW r (fun q hq => h q (by simp [hq])) w hw
theorem cl_sumW {n : Int} {ps : Prs} (h : FineS n ps) : ∀ w ∈ sumW n ps, Cl w := by
  intro w hw
  simp only [sumW, List.mem_cons, List.mem_append] at hw
  rcases hw with e | hw | hw
  · rw [e]; exact cl_nS h.1
  · exact cl_psW ps h.2.2 w hw
  · simp at hw; rw [hw]; exact cl_semi
theorem cl_bw (b : Bool) : Cl (bw b) := by cases b <;> exact cl_of (by decide +kernel)
theorem cl_qw (b : Bool) : Cl (qw b) := by cases b <;> exact cl_of (by decide +kernel)
mutual
theorem cl_words : ∀ f : F, f.fine → ∀ w ∈ f.words, Cl w
  | .e k n ps, hf => by
    simp only [F.fine] at hf
    obtain ⟨hs, hg⟩ := hf
    intro w hw
    cases k with
    | above =>
      simp only [F.words, List.mem_cons] at hw
      rcases hw with e | hw
      · rw [e]; exact cl_of (by decide +kernel)
      · exact cl_sumW hs w hw
    | nought =>
      simp only [F.words, List.mem_cons] at hw
      rcases hw with e | hw
      · rw [e]; exact cl_of (by decide +kernel)
      · exact cl_sumW hs w hw
    | goes h =>
      simp only [F.words, List.mem_cons] at hw
      rcases hw with e | e | hw
      · rw [e]; exact cl_of (by decide +kernel)
      · rw [e]; exact cl_nS (hg h rfl).2
      · exact cl_sumW hs w hw
  | .nt f, hf => by
    simp only [F.fine] at hf
    intro w hw
    simp only [F.words, List.mem_cons] at hw
    rcases hw with e | hw
    · rw [e]; exact cl_of (by decide +kernel)
    · exact cl_words f hf w hw
  | .nd b fs, hf => by
    simp only [F.fine] at hf
    intro w hw
    simp only [F.words, List.mem_cons] at hw
    rcases hw with e | e | hw
    · rw [e]; exact cl_bw b
    · rw [e]; exact cl_nS (by unfold Ten60; rw [Int.natAbs_natCast]; exact hf.1)
    · exact cl_wordss fs hf.2 w hw
  | .qn b x f, hf => by
    simp only [F.fine] at hf
    intro w hw
    simp only [F.words, List.mem_cons] at hw
    rcases hw with e | e | hw
    · rw [e]; exact cl_qw b
    · rw [e]; exact cl_nm hf.1
    · exact cl_words f hf.2 w hw
theorem cl_wordss : ∀ fs : List F, F.fines fs → ∀ w ∈ F.wordss fs, Cl w
  | [], _ => by simp [F.wordss]
  | f :: fs, hf => by
    simp only [F.fines] at hf
    intro w hw
    simp only [F.wordss, List.mem_append] at hw
    rcases hw with hw | hw
    · exact cl_words f hf.1 w hw
    · exact cl_wordss fs hf.2 w hw
end
/-- a statement's text, as the law reads it -/
theorem law_read_words (f : F) (hd : f.dep ≤ 40) (hf : f.fine) (hl : f.words.length ≤ 10000) : m_law_read [.t (.str (Txt.join " " f.words))] = .ok (.t (.tup [.str "statement", f.enc])) := by
  have hcl := cl_words f hf
  have hne : f.words ≠ [] := by have := words_pos f; intro e; rw [e] at this; simp at this
  have hsp := split_cl hne hcl
  have hjl : (Txt.join " " f.words).length ≤ 63 * f.words.length := by rw [join_eq]; exact join_len _ hcl
  have hok : PyData.strOk (Txt.join " " f.words) = true := rng_ok fun c hc => by
    rw [join_eq] at hc
    exact (join_rng _ hcl c hc).2
  have h := law_read_eq (Txt.join " " f.words) hok (by omega) (by rw [hsp]; omega)
  have hst := stS_words f 40 [] hd hf
  rw [List.append_nil] at hst
  rw [hsp, hst] at h
  exact h
end Pf

set_option Elab.async false
set_option linter.all false
set_option maxRecDepth 100000
set_option maxHeartbeats 4000000
namespace Pf
open PySem L2 TL
/-! ## a statement of the law -/
theorem ten_lg {i : Int} (h : Ten60 i) : Lg i := by
  unfold Lg Ten60 at *
  by_cases h0 : i.natAbs = 0
  · rw [h0]; decide
  · exact Nat.lt_of_lt_of_le ((Nat.log2_lt h0).mpr (Nat.lt_trans h (by decide : (10 : Nat) ^ 60 < 2 ^ 200))) (by decide)
def Sho (k : EK) (n : Int) (ps : Prs) : Prop := FineE k n ps ∧ ps.length ≤ 1000
theorem sho_lg {k : EK} {n : Int} {ps : Prs} (h : Sho k n ps) : LgE k n ps :=
  ⟨⟨ten_lg h.1.1.1, fun p hp => ten_lg (h.1.1.2.2 p hp).2.2, h.2⟩, fun g e => ten_lg (h.1.2 g e).2⟩
/-- a statement that the law writes -/
structure Wr (f : F) (d c : Nat) : Prop where
  fine : f.fine
  all : f.all Sho
  wid : f.wid ≤ 1000
  dep : f.dep ≤ d
  len : f.words.length ≤ c
theorem words_le : ∀ f : F, f.words.length ≤ 4 * f.cnt + 2 * f.sz + 2 * f.nod
  | .e k n ps => by cases k <;> simp [F.words, sumW, psW_len, F.cnt, F.sz, F.nod] <;> omega
  | .nt f => by
    have := words_le f
    simp only [F.words, F.cnt, F.sz, F.nod, List.length_cons]; omega
  | .qn b x f => by
    have := words_le f
    simp only [F.words, F.cnt, F.sz, F.nod, List.length_cons]; omega
  | .nd b fs => by
    have : ∀ fs : List F, (∀ f ∈ fs, f.words.length ≤ 4 * f.cnt + 2 * f.sz + 2 * f.nod) → (F.wordss fs).length ≤ 4 * F.cnts fs + 2 * F.szs fs + 2 * F.nods fs := by
      intro fs
      induction fs with
      | nil => intro _; simp [F.wordss]
      | cons f fs ih =>
        intro h
        have h1 := h f (by simp)
        have h2 := ih fun g hg => h g (by simp [hg])
        simp only [F.wordss, F.cnts, F.szs, F.nods, List.length_append]; omega
    have := this fs fun f _ => words_le f
    simp only [F.words, F.cnt, F.sz, F.nod, List.length_cons]; omega
mutual
theorem fine_plain : ∀ f : F, f.plain = true → f.all Sho → f.wid ≤ 1000 → f.fine
  | .e k n ps, _, h, _ => by simp only [F.all] at h; simp only [F.fine]; exact h.1
  | .nt f, hp, h, hw => by
    simp only [F.plain] at hp; simp only [F.all] at h; simp only [F.wid] at hw
    simp only [F.fine]; exact fine_plain f hp h hw
  | .nd b fs, hp, h, hw => by
    simp only [F.plain] at hp; simp only [F.all] at h; simp only [F.wid] at hw
    simp only [F.fine]
    exact ⟨Nat.lt_of_le_of_lt (show fs.length ≤ 1000 by omega) (by decide), fine_plains fs hp h (by omega)⟩
  | .qn b x f, hp, _, _ => by simp [F.plain] at hp
theorem fine_plains : ∀ fs : List F, F.plains fs = true → F.alls Sho fs → F.wids fs ≤ 1000 → F.fines fs
  | [], _, _, _ => by simp only [F.fines]
  | f :: fs, hp, h, hw => by
    simp only [F.plains, Bool.and_eq_true] at hp; simp only [F.alls] at h; simp only [F.wids] at hw
    simp only [F.fines]
    exact ⟨fine_plain f hp.1 h.1 (by omega), fine_plains fs hp.2 h.2 (by omega)⟩
end
theorem up_sub {N : List Str} {ps : Prs} (hd : N.Nodup) (h : (ps.map (·.1)).Sublist (srtS N)) : Up ps := by
  have h1 : (srtS N).Pairwise fun a b => leS b a = false := by
    have hp := srtS_pw N
    have hn : (srtS N).Nodup := (srtS_perm N).nodup_iff.mpr hd
    refine (hp.and hn).imp fun {a b} ⟨q1, q2⟩ => ?_
    cases e : leS b a with
    | false => rfl
    | true => exact absurd (leS_antisymm q1 e) q2
  have h2 := h1.sublist h
  exact List.pairwise_map.mp h2
theorem end_sho {N : List Str} {M : Int} {k : EK} {n : Int} {ps : Prs} (hd : N.Nodup) (hn : ∀ x ∈ N, Nm x) (hl : N.length ≤ 1000) (hM : M < 10 ^ 60) (h : EndOk N 3 M k n ps) : Sho k n ps := by
  have hes := end_sz h
  obtain ⟨⟨q1, q2, q3⟩, q4⟩ := h
  refine ⟨⟨⟨?_, up_sub hd q1, fun p hp => ?_⟩, fun g e => ?_⟩, by omega⟩
  · exact Nat.lt_of_le_of_lt q2 (by decide)
  · obtain ⟨r1, r2, r3⟩ := q3 p hp
    refine ⟨hn _ ((srtS_perm N).mem_iff.mp (q1.subset (List.mem_map_of_mem hp))), r1, ?_⟩
    exact Nat.lt_of_le_of_lt (show p.2.natAbs ≤ 3 by omega) (by decide)
  · obtain ⟨r1, r2⟩ := q4 g e
    refine ⟨r1, ?_⟩
    unfold Ten60
    omega
theorem plok_wr {N : List Str} {M : Int} {i : Nat} {f : F} (hd : N.Nodup) (hn : ∀ x ∈ N, Nm x) (hl : N.length ≤ 3) (hM : M < 10 ^ 60) (hi : i ≤ 4) (h : PlOk N 3 M i f) : Wr f 17 844 := by
  have ha : f.all Sho := all_mono (fun k n ps q => end_sho hd hn (by omega) hM q) f h.all
  have hwid := h.wid
  have hsz : f.sz ≤ 3 * 81 := Nat.le_trans h.sz (Nat.mul_le_mul hl (by omega))
  have hw := words_le f
  have hc := h.cnt
  have hno := h.nod
  have hdp := h.dep
  exact ⟨fine_plain f h.plain ha (by omega), ha, by omega, by omega, by omega⟩
theorem bound_by_form (c : Int) (f : F) (N : List Str) (h4 : N.length = 4) : ∃ (g : F) (b : Bool) (x : Str), x ∈ N ∧ m_law_bound_by [.t (.int c), .t f.enc, .lst (N.map T.str)] = .ok (.t g.enc) ∧ (g = .qn b x f ∨ g = .nt (.qn b x f) ∨ g = .nd true [f, .qn b x f] ∨ g = .nd false [.nd true [], .nt (.nd false [.qn b x f, f])]) := by
  have hix : ixD (.lst (N.map T.str)) (.t (.int (c / 2 % 4))) = .ok (.t (.str (N[(c / 2 % 4).toNat]'(by omega)))) := by
    rw [ix_l, atI_pos _ (by omega), List.getElem?_map, List.getElem?_eq_getElem (by omega)]
    rfl
  have hmem : N[(c / 2 % 4).toNat]'(by omega) ∈ N := List.getElem_mem _
  generalize hx : N[(c / 2 % 4).toNat]'(by omega) = x at hix hmem
  have hq : ∃ b : Bool, ixD (.lst [.str "some", .str "all"]) (.t (.int (c % 2))) = .ok (.t (.str (qw b))) := by
    have h2 : c % 2 = 0 ∨ c % 2 = 1 := by omega
    rcases h2 with h | h
    · exact ⟨true, by simp [h]⟩
    · exact ⟨false, by simp [h]⟩
  obtain ⟨b, hb⟩ := hq
  unfold m_law_bound_by g_law_bound_by
  rw [runDef_Rt]
  have h4 : c / 8 % 4 = 0 ∨ c / 8 % 4 = 1 ∨ c / 8 % 4 = 2 ∨ c / 8 % 4 = 3 := by omega
  rcases h4 with h | h | h | h
  · exact ⟨.qn b x f, b, x, hmem, by simp [hix, hb, h, F.enc, retN], .inl rfl⟩
  · exact ⟨.nt (.qn b x f), b, x, hmem, by simp [hix, hb, h, F.enc], .inr (.inl rfl)⟩
  · exact ⟨.nd true [f, .qn b x f], b, x, hmem, by simp [hix, hb, h, F.enc, F.encs], .inr (.inr (.inl rfl))⟩
  · exact ⟨.nd false [.nd true [], .nt (.nd false [.qn b x f, f])], b, x, hmem, by simp [hix, hb, h, F.enc, F.encs], .inr (.inr (.inr rfl))⟩
theorem small60 {n : Nat} (h : n ≤ 1000) : n < 10 ^ 60 := Nat.lt_of_le_of_lt h (by decide)
theorem bound_wr (c : Int) {f : F} {N : List Str} {d w : Nat} (h4 : N.length = 4) (hn : ∀ x ∈ N, Nm x) (h : Wr f d w) : ∃ g, m_law_bound_by [.t (.int c), .t f.enc, .lst (N.map T.str)] = .ok (.t g.enc) ∧ Wr g (d + 5) (2 * w + 9) := by
  obtain ⟨g, b, x, hx, hm, hg⟩ := bound_by_form c f N h4
  have hnx := hn x hx
  obtain ⟨h1, h2, h3, h5, h6⟩ := h
  refine ⟨g, hm, ?_⟩
  rcases hg with e | e | e | e
  all_goals
    subst e
    constructor
    · simp only [F.fine, F.fines, List.length_cons, List.length_nil]
      simp [h1, hnx, small60]
    · simp only [F.all, F.alls]; simp [h2]
    · simp only [F.wid, F.wids, List.length_cons, List.length_nil]; omega
    · simp only [F.dep, F.deps]; omega
    · simp only [F.words, F.wordss, List.length_cons, List.length_append, List.length_nil]; omega
end Pf

set_option Elab.async false
set_option linter.all false
set_option maxRecDepth 100000
set_option maxHeartbeats 4000000
namespace Pf
open PySem L2 TL
/-! ## texts of clean words, and what stands about them -/
theorem blank_is : (" " : Str) = ⟨#[32]⟩ := by decide +kernel
theorem cnt_count (c : Nat) : ∀ l : List Nat, PyProof.Rows.cnt c l = (l.count c : Int)
  | [] => by rw [PyProof.Rows.cnt_nil]; rfl
  | n :: r => by
    rw [PyProof.Rows.cnt_cons, cnt_count c r, List.count_cons]
    by_cases h : n = c
    · simp [h]; omega
    · simp [h]
theorem split_cnt (x : Str) : (Txt.split x " ").length = 1 + x.cps.toList.count 32 := by
  have h := PyProof.Rows.split_len x 32
  rw [cnt_count, ← blank_is] at h
  omega
theorem join_cnt : ∀ (ws : List Str), (∀ w ∈ ws, Cl w) → (Str.join " " ws).cps.toList.count 32 ≤ ws.length
  | [], _ => by
    have : (Str.join " " ([] : List Str)).cps.toList = [] := rfl
    rw [this]; simp
  | [x], h => by
    show x.cps.toList.count 32 ≤ _
    rw [List.count_eq_zero_of_not_mem fun hc => by have := (h x (by simp)).2 32 hc; omega]
    omega
  | x :: y :: r, h => by
    have ih := join_cnt (y :: r) fun w hw => h w (List.mem_cons_of_mem _ hw)
    have e : (x ++ " " ++ Str.join " " (y :: r)).cps.toList = tl x ++ (tl " " ++ tl (Str.join " " (y :: r))) := by
      rw [Str.cps_append, Str.cps_append, Array.toList_append, Array.toList_append, List.append_assoc]
    have h0 : (tl x).count 32 = 0 := List.count_eq_zero_of_not_mem fun hc => by have := (h x (by simp)).2 32 hc; omega
    show (x ++ " " ++ Str.join " " (y :: r)).cps.toList.count 32 ≤ _
    rw [e, List.count_append, List.count_append, h0, blank_tl]
    have ih' : (tl (Str.join " " (y :: r))).count 32 ≤ (y :: r).length := ih
    simp only [List.length_cons, List.count_singleton_self] at ih' ⊢
    omega
/-- a text that the law may hand in -/
structure Tx (x : Str) (n c : Nat) : Prop where
  len : x.length ≤ n
  rng : ∀ a ∈ x.cps.toList, a ≤ 127
  cnt : x.cps.toList.count 32 ≤ c
theorem tx_due {x : Str} {n c : Nat} (h : Tx x n c) (hn : n ≤ 1000000) (hc : c ≤ 90000) : m_law_is_due [.t (.str x)] = .ok (.t (.bl true)) := by
  have h3 := h.cnt
  have h1 := h.len
  exact due_true x (rng_ok h.rng) (by omega) (by rw [split_cnt]; omega)
theorem tx_join {ws : List Str} (h : ∀ w ∈ ws, Cl w) : Tx (Txt.join " " ws) (63 * ws.length) ws.length := by
  rw [join_eq]
  exact ⟨join_len ws h, fun a ha => (join_rng ws h a ha).2, join_cnt ws h⟩
theorem tx_app {x y : Str} {n m c d : Nat} (h1 : Tx x n c) (h2 : Tx y m d) : Tx (x ++ y) (n + m) (c + d) := by
  have e : (x ++ y).cps.toList = x.cps.toList ++ y.cps.toList := by rw [Str.cps_append, Array.toList_append]
  have a1 := h1.len
  have a2 := h2.len
  have b1 := h1.cnt
  have b2 := h2.cnt
  refine ⟨by rw [Str.length_append]; omega, fun a ha => ?_, by rw [e, List.count_append]; omega⟩
  rw [e] at ha
  rcases List.mem_append.mp ha with q | q
  · exact h1.rng a q
  · exact h2.rng a q
def txB (x : Str) : Bool := decide (x.length ≤ 2) && x.cps.toList.all fun c => decide (c ≤ 127)
theorem tx_of {x : Str} (h : txB x = true) : Tx x 2 2 := by
  unfold txB at h
  simp only [Bool.and_eq_true, decide_eq_true_eq, List.all_eq_true] at h
  have hl : x.cps.toList.length = x.length := Array.length_toList
  have := List.count_le_length (a := 32) (l := x.cps.toList)
  exact ⟨h.1, h.2, by omega⟩
theorem tail_tx : Tx "\n" 2 2 ∧ Tx "\t" 2 2 ∧ Tx " " 2 2 ∧ Tx "\n\n" 2 2 := ⟨tx_of (by decide +kernel), tx_of (by decide +kernel), tx_of (by decide +kernel), tx_of (by decide +kernel)⟩
theorem sum_cl : ∀ ws : List Str, (∀ w ∈ ws, Cl w) → (ws.map (·.length)).sum ≤ 62 * ws.length
  | [], _ => by simp
  | w :: r, h => by
    have h1 := (h w (by simp)).1
    have h2 := sum_cl r fun v hv => h v (by simp [hv])
    simp only [List.map_cons, List.sum_cons, List.length_cons]; omega
theorem join_d {ws : List Str} (h : ∀ w ∈ ws, Cl w) (hl : ws.length ≤ 20000) : joinD (.t (.str " ")) (.lst (ws.map T.str)) = .ok (.t (.str (Txt.join " " ws))) := by
  have h1 := sum_cl ws h
  have hb : (" " : Str).length = 1 := by decide +kernel
  simp only [joinD, asStrs_map]
  rw [if_pos (by rw [hb]; omega)]
theorem written_eq {f : F} {d c : Nat} (h : Wr f d c) (hd : d ≤ 100) (hc : c ≤ 20000) : m_written [.t f.enc] = .ok (.t (.str (Txt.join " " f.words))) := by
  have hdp := h.dep
  have hln := h.len
  have hw := (words_of_eq 100 f (by omega) (all_mono (fun k n ps q => sho_lg q) f h.all) (by omega)).1
  have hj := join_d (cl_words f h.fine) (by omega)
  unfold m_written g_written
  rw [runDef_Rt]
  simp [hw, hj]
end Pf

set_option Elab.async false
set_option linter.all false
set_option maxRecDepth 100000
set_option maxHeartbeats 4000000
namespace Pf
open PySem L2 TL
/-! ## a change in the words -/
def J61 : Str := Txt.mul "1" 61
theorem j61_eq : mulD (.t (.str "1")) (.t (.int 61)) = .ok (.t (.str J61)) := by
  have : ("1" : Str).length = 1 := by decide +kernel
  simp only [mulD]
  rw [if_pos ⟨by omega, by decide, by decide⟩]; rfl
def JUNK : List Str := ["not", "and", "some", "x", "0", "1", "-1", "-0", "07", "+1", ";", "", "X", "abcdefghi", "2x", J61, "-2", "-", "--1", "abcdefgh", "1-", "al", "so", "n", "gone"]
theorem junk_cl : ∀ w ∈ JUNK, Cl w := by
  have h : JUNK.all clB = true := by decide +kernel
  intro w hw
  exact cl_of (List.all_eq_true.mp h w hw)
theorem len_n (ws : List Str) (h : ws.length ≤ 20000) : lenD [.lst (ws.map T.str)] = .ok (.t (.int (ws.length : Int))) := by simp
theorem junk_ix (s : Nat) : ∃ w, Cl w ∧ ixD (.lst (JUNK.map T.str)) (.t (.int (((s / 512 % 25 : Nat) : Int)))) = .ok (.t (.str w)) := by
  have hl : JUNK.length = 25 := rfl
  have hlt : s / 512 % 25 < JUNK.length := by omega
  refine ⟨JUNK[s / 512 % 25], junk_cl _ (List.getElem_mem _), ?_⟩
  rw [ix_l, atI_pos _ (by omega), Int.toNat_natCast, List.getElem?_map, List.getElem?_eq_getElem hlt]
  rfl
end Pf

set_option Elab.async false
set_option linter.all false
set_option maxRecDepth 100000
set_option maxHeartbeats 4000000
namespace Pf
open PySem L2 TL
theorem b2_ok {op : D → D → R D} {f g : Ev → R D} {ρ : Ev} {x y : D} {r : R D} (h1 : f ρ = .ok x) (h2 : g ρ = .ok y) (h : op x y = r) : b2 op f g ρ = r := by
  unfold b2; rw [h1]; show (g ρ >>= fun y => op x y) = r; rw [h2]; exact h
theorem ap1_ok {op : List D → R D} {f : Ev → R D} {ρ : Ev} {x : D} {r : R D} (h1 : f ρ = .ok x) (h : op [x] = r) : ap op (cA f nA) ρ = r := by
  unfold ap cA; rw [h1]; exact h
theorem ap2_ok {op : List D → R D} {f g : Ev → R D} {ρ : Ev} {x y : D} {r : R D} (h1 : f ρ = .ok x) (h2 : g ρ = .ok y) (h : op [x, y] = r) : ap op (cA f (cA g nA)) ρ = r := by
  unfold ap cA; rw [h1]; show ((g ρ >>= fun y => R.ok [y]) >>= fun xs => R.ok (x :: xs)) >>= op = r; rw [h2]; exact h
theorem set_ok {i : Nat} {f : Ev → R D} {ρ : Ev} {x : D} (h : f ρ = .ok x) : setO i f ρ = .ok (.nx (ρ.set i (.d x true))) := by
  unfold setO; rw [h]; rfl
theorem ret_ok {f : Ev → R D} {ρ : Ev} {x : D} (h : f ρ = .ok x) : retO f ρ = .ok (.rt x) := by
  unfold retO; rw [h]; rfl
theorem tv_ok {f : Ev → R D} {ρ : Ev} {b : Bool} (h : f ρ = .ok (.t (.bl b))) : tV f ρ = .ok b := by
  unfold tV; rw [h]; rfl
theorem sl_hi {f g : Ev → R D} {ρ : Ev} {x : D} {k : Int} {r : R D} (h1 : f ρ = .ok x) (h2 : g ρ = .ok (.t (.int k))) (h : slD x none (some k) = r) : sl3 f sN (sS g) ρ = r := by
  unfold sl3 sN sS; rw [h1]; show ((g ρ >>= asInt) >>= _) = r; rw [h2]; exact h
theorem sl_lo {f g : Ev → R D} {ρ : Ev} {x : D} {k : Int} {r : R D} (h1 : f ρ = .ok x) (h2 : g ρ = .ok (.t (.int k))) (h : slD x (some k) none = r) : sl3 f (sS g) sN ρ = r := by
  unfold sl3 sN sS; rw [h1]; show ((g ρ >>= asInt) >>= _) = r; rw [h2]; exact h
theorem mk1_ok {f : Ev → R D} {ρ : Ev} {x : T} (h : f ρ = .ok (.t x)) : ap mkLst (cA f nA) ρ = .ok (.lst [x]) := ap1_ok h rfl
/-- the sign of the change -/
theorem chg_is {ρ : Ev} {s : Int} {m : Nat} (k : Nat) (hr : rdE 1 ρ = .ok (.t (.int s))) (hm : s % 5 = (m : Int)) : tV (b2 eqD (b2 modD (rdE 1) (kI 5)) (kI (k : Int))) ρ = .ok (decide (m = k)) := by
  refine tv_ok (b2_ok (b2_ok hr rfl (mod_ii s 5 (by decide))) rfl ?_)
  rw [eq_ii, hm]
  have : decide ((m : Int) = (k : Int)) = decide (m = k) := decide_eq_decide.mpr (by omega)
  rw [this]
theorem chg3_ok {ρ : Ev} {W : List T} {s : Int} {m p : Nat} {b : Bool} (hr0 : rdE 0 ρ = .ok (.lst W)) (hr : rdE 1 ρ = .ok (.t (.int s))) (hm : s % 5 = (m : Int)) (hb : b = (decide (1 < m) && decide (m < 4))) (hp : s / 5 % ((W.length : Int) + (if b then 1 else 0)) = (p : Int)) (hl : 0 < W.length) :
    setO 3 (b2 modD (b2 divD (rdE 1) (kI 5)) (b2 addD (ap lenD (cA (rdE 0) nA)) (ap intD (cA (vAnd (b2 gtD (b2 modD (rdE 1) (kI 5)) (kI 1)) (b2 ltD (b2 modD (rdE 1) (kI 5)) (kI 4))) nA)))) ρ = .ok (.nx (ρ.set 3 (.d (.t (.int (p : Int))) true))) := by
  have h1 : decide ((1 : Int) < (m : Int)) = decide (1 < m) := decide_eq_decide.mpr (by omega)
  have h2 : decide ((m : Int) < 4) = decide (m < 4) := decide_eq_decide.mpr (by omega)
  have e1 : b2 gtD (b2 modD (rdE 1) (kI 5)) (kI 1) ρ = .ok (.t (.bl (decide (1 < m)))) := b2_ok (b2_ok hr rfl (mod_ii s 5 (by decide))) rfl (by rw [gt_ii, hm, h1])
  have e2 : b2 ltD (b2 modD (rdE 1) (kI 5)) (kI 4) ρ = .ok (.t (.bl (decide (m < 4)))) := b2_ok (b2_ok hr rfl (mod_ii s 5 (by decide))) rfl (by rw [lt_ii, hm, h2])
  have hv : (vAnd (b2 gtD (b2 modD (rdE 1) (kI 5)) (kI 1)) (b2 ltD (b2 modD (rdE 1) (kI 5)) (kI 4))) ρ = .ok (.t (.bl b)) := by
    unfold vAnd
    rw [e1, andV_ok, e2, hb]
    cases decide (1 < m) <;> rfl
  have hi : intD [.t (.bl b)] = .ok (.t (.int (if b then 1 else 0))) := rfl
  have hz : (0 : Int) < (W.length : Int) + (if b then 1 else 0) := by split <;> omega
  have hmd := mod_ii (s / 5) _ hz
  rw [hp] at hmd
  have hdv := div_ii s 5 (by decide) (by decide)
  exact set_ok (b2_ok (b2_ok hr rfl hdv) (b2_ok (ap1_ok hr0 (lenD_l W)) (ap1_ok hv hi) (add_ii _ _)) hmd)

theorem add_ll {xs ys : List T} (h : xs.length + ys.length ≤ 16777216) : addD (.lst xs) (.lst ys) = .ok (.lst (xs ++ ys)) := by
  show (if xs.length + ys.length ≤ 16777216 then R.ok (D.lst (xs ++ ys)) else .stuck) = _
  rw [if_pos h]
theorem ifO_t {c : Ev → R Bool} {a b : Ev → R Out} {ρ : Ev} (h : c ρ = .ok true) : ifO c a b ρ = a ρ := by
  show (c ρ >>= fun b' => if b' then a ρ else b ρ) = _
  rw [h]; rfl
theorem ifO_f {c : Ev → R Bool} {a b : Ev → R Out} {ρ : Ev} (h : c ρ = .ok false) : ifO c a b ρ = b ρ := by
  show (c ρ >>= fun b' => if b' then a ρ else b ρ) = _
  rw [h]; rfl
theorem Rt_ret {a b : Ev → R Out} {ρ : Ev} {d : D} (h : a ρ = .ok (.rt d)) : Rt (seqO a b ρ) = .ok d := by
  unfold seqO
  rw [h]; rfl
theorem take_d {ws : List Str} (k : Nat) : slD (.lst (ws.map T.str)) none (some (k : Int)) = .ok (.lst ((ws.take k).map T.str)) := by rw [take_l, List.map_take]
theorem drop_d {ws : List Str} (k : Nat) : slD (.lst (ws.map T.str)) (some (k : Int)) none = .ok (.lst ((ws.drop k).map T.str)) := by rw [drop_ln, List.map_drop]
/-- a word with a sign taken out or put in its place -/
theorem sign_ch {w : Str} (s : Nat) (hw : Cl w) : ∃ (k : Int) (v : Str), Cl v ∧ modD (.t (.int ((s : Int) / 512))) (.t (.int (if (w.length : Int) > 1 then (w.length : Int) else 1))) = .ok (.t (.int k)) ∧
    ∃ (a b e : Str) (c : Str), slD (.t (.str w)) none (some k) = .ok (.t (.str a)) ∧ slD (.t (.str w)) (some (k + 1)) none = .ok (.t (.str b)) ∧ ixD (.lst [.str "", .str "&"]) (.t (.int ((s : Int) / 7 % 2))) = .ok (.t (.str e)) ∧ addD (.t (.str a)) (.t (.str e)) = .ok (.t (.str c)) ∧ addD (.t (.str c)) (.t (.str b)) = .ok (.t (.str v)) := by
  obtain ⟨h1, h2⟩ := hw
  rw [sl_of w] at h1 h2 ⊢
  generalize w.cps.toList = l at h1 h2 ⊢
  rw [sl_len] at h1 ⊢
  rw [sl_cps] at h2
  obtain ⟨m, hm, hme, hm2⟩ : ∃ m : Nat, 0 < m ∧ (if (l.length : Int) > 1 then (l.length : Int) else 1) = (m : Int) ∧ (m = l.length ∨ (m = 1 ∧ l.length = 0)) := by
    by_cases q : l.length > 1
    · exact ⟨l.length, by omega, by rw [if_pos (by omega)], .inl rfl⟩
    · exact ⟨1, by omega, by rw [if_neg (by omega)]; rfl, by omega⟩
  rw [hme]
  have hk := Nat.mod_lt (s / 512) hm
  have hkk : ((s : Int) / 512 % (m : Int)) = ((s / 512 % m : Nat) : Int) := by simp
  generalize s / 512 % m = k at hk hkk
  obtain ⟨e, he, hel, hex⟩ : ∃ e : List Nat, ixD (.lst [.str "", .str "&"]) (.t (.int ((s : Int) / 7 % 2))) = .ok (.t (.str (sl e))) ∧ e.length ≤ 1 ∧ ∀ c ∈ e, c = 38 := by
    have e0 : ("" : Str) = sl [] := by decide +kernel
    have e1 : ("&" : Str) = sl [38] := by decide +kernel
    have h2 : (s : Int) / 7 % 2 = 0 ∨ (s : Int) / 7 % 2 = 1 := by omega
    rcases h2 with q | q
    · exact ⟨[], by rw [q, ← e0]; rfl, by simp, by simp⟩
    · exact ⟨[38], by rw [q, ← e1]; rfl, by simp, by simp⟩
  refine ⟨(k : Int), sl (l.take k ++ e ++ l.drop (k + 1)), ⟨?_, ?_⟩, ?_, sl (l.take k), sl (l.drop (k + 1)), sl e, sl (l.take k ++ e), take_sl l k (by omega), ?_, he, add_sl _ _ ?_, add_sl _ _ ?_⟩
  · rw [sl_len]; simp only [List.length_append, List.length_take, List.length_drop]; omega
  · intro c hc
    rw [sl_cps] at hc
    rcases List.mem_append.mp hc with q | q
    · rcases List.mem_append.mp q with q | q
      · exact h2 c (List.mem_of_mem_take q)
      · have := hex c q; omega
    · exact h2 c (List.mem_of_mem_drop q)
  · rw [mod_ii _ _ (by omega), hkk]
  · exact drop_sl l (k + 1) (by omega)
  · simp only [List.length_take]; omega
  · simp only [List.length_append, List.length_take, List.length_drop]; omega
theorem chg_yes {ρ : Ev} {s : Int} {k : Nat} {a b : Ev → R Out} (hr : rdE 1 ρ = .ok (.t (.int s))) (hm : s % 5 = (k : Int)) : ifO (tV (b2 eqD (b2 modD (rdE 1) (kI 5)) (kI (k : Int)))) a b ρ = a ρ := by
  have := chg_is k hr hm
  rw [decide_eq_true rfl] at this
  exact ifO_t this
theorem chg_no {ρ : Ev} {s : Int} {m k : Nat} {a : Ev → R Out} (hr : rdE 1 ρ = .ok (.t (.int s))) (hm : s % 5 = (m : Int)) (hk : m ≠ k) : ifO (tV (b2 eqD (b2 modD (rdE 1) (kI 5)) (kI (k : Int)))) a nxO ρ = .ok (.nx ρ) := by
  have := chg_is k hr hm
  rw [decide_eq_false hk] at this
  exact ifO_f this
theorem Rt_ex {a b : Ev → R Out} {ρ : Ev} (P : D → Prop) (h : ∃ ρ', a ρ = .ok (.nx ρ') ∧ ∃ d, Rt (b ρ') = .ok d ∧ P d) : ∃ d, Rt (seqO a b ρ) = .ok d ∧ P d := by
  obtain ⟨ρ', e, d, h1, h2⟩ := h
  exact ⟨d, (Rt_seq e).trans h1, h2⟩
theorem seq_nx {a b : Ev → R Out} {ρ ρ' : Ev} (h : a ρ = .ok (.nx ρ')) : seqO a b ρ = b ρ' := by
  unfold seqO; rw [h]; rfl
theorem changed_ok (ws : List Str) (s : Nat) (hne : ws ≠ []) (hcl : ∀ w ∈ ws, Cl w) (hl : ws.length ≤ 20000) : ∃ d, m_law_changed [.lst (ws.map T.str), .t (.int (s : Int))] = .ok d ∧ ∃ vs : List Str, d = .lst (vs.map T.str) ∧ (∀ v ∈ vs, Cl v) ∧ vs.length ≤ ws.length + 1 := by
  have hpos : 0 < ws.length := List.length_pos_iff.mpr hne
  obtain ⟨w, hw, hix⟩ := junk_ix s
  have hmul := j61_eq
  unfold m_law_changed g_law_changed
  rw [runDef_Rt]
  simp only [List.map_cons, List.map_nil, List.cons_append, List.nil_append, un_s, un_0]
  have hj : JUNK.map T.str = [T.str "not", T.str "and", T.str "some", T.str "x", T.str "0", T.str "1", T.str "-1", T.str "-0", T.str "07", T.str "+1", T.str ";", T.str "", T.str "X"] ++ [T.str "abcdefghi", T.str "2x", T.str J61, T.str "-2", T.str "-", T.str "--1", T.str "abcdefgh", T.str "1-", T.str "al", T.str "so", T.str "n", T.str "gone"] := rfl
  have hw5 : s % 5 = 0 ∨ s % 5 = 1 ∨ s % 5 = 2 ∨ s % 5 = 3 ∨ s % 5 = 4 := by omega
  have hlm : (ws.map T.str).length = ws.length := List.length_map ..
  have e512 : modD (.t (.int ((s : Int) / 512))) (.t (.int 25)) = .ok (.t (.int ((s / 512 % 25 : Nat) : Int))) := by
    rw [mod_ii _ _ (by decide)]; rfl
  have hkeep : ∀ k, (∀ v ∈ ws.take k ++ ws.drop (k + 1), Cl v) := fun k v hv => (List.mem_append.mp hv).elim (fun q => hcl v (List.mem_of_mem_take q)) (fun q => hcl v (List.mem_of_mem_drop q))
  have hin : ∀ k j x, Cl x → (∀ v ∈ ws.take k ++ [x] ++ ws.drop j, Cl v) := fun k j x hx v hv => (List.mem_append.mp hv).elim (fun q => (List.mem_append.mp q).elim (fun q => hcl v (List.mem_of_mem_take q)) (fun e => by rw [List.mem_singleton.mp e]; exact hx)) (fun q => hcl v (List.mem_of_mem_drop q))
  have hmi : ∀ m : Nat, s % 5 = m → (s : Int) % 5 = (m : Int) := fun m e => by omega
  have hd512 := div_ii (s : Int) 512 (by decide) (by decide)
  have hd7 := div_ii (s : Int) 7 (by decide) (by decide)
  refine Rt_ex _ ⟨[.d (.lst (ws.map T.str)) false, .d (.t (.int (s : Int))) false, .d (.lst [T.str "not", T.str "and", T.str "some", T.str "x", T.str "0", T.str "1", T.str "-1", T.str "-0", T.str "07", T.str "+1", T.str ";", T.str "", T.str "X"]) true, .un, .un, .un, .un], by simp, ?_⟩
  refine Rt_ex _ ⟨[.d (.lst (ws.map T.str)) false, .d (.t (.int (s : Int))) false, .d (.lst (JUNK.map T.str)) true, .un, .un, .un, .un], by rw [hj]; simp [hmul, addD], ?_⟩
  generalize D.lst (JUNK.map T.str) = L at hix
  have e4 : ∀ {ρ : Ev}, rdE 1 ρ = .ok (.t (.int (s : Int))) → rdE 2 ρ = .ok L → setO 4 (b2 ixD (rdE 2) (b2 modD (b2 divD (rdE 1) (kI 512)) (kI 25))) ρ = .ok (.nx (ρ.set 4 (.d (.t (.str w)) true))) := fun h1 h2 => set_ok (b2_ok h2 (b2_ok (b2_ok h1 rfl hd512) rfl e512) hix)
  have hp0 : (s : Int) / 5 % (((ws.map T.str).length : Int) + (if false then 1 else 0)) = ((s / 5 % ws.length : Nat) : Int) := by
    rw [hlm]; simp
  have hp1 : (s : Int) / 5 % (((ws.map T.str).length : Int) + (if true then 1 else 0)) = ((s / 5 % (ws.length + 1) : Nat) : Int) := by
    rw [hlm]; simp
  have b0 := Nat.mod_lt (s / 5) hpos
  have b1 := Nat.mod_lt (s / 5) (Nat.succ_pos ws.length)
  generalize s / 5 % ws.length = p at hp0 b0
  generalize s / 5 % (ws.length + 1) = q at hp1 b1
  have hlpos : 0 < (ws.map T.str).length := by rw [hlm]; exact hpos
  rcases hw5 with e | e | e | e | e
  · have hm := hmi _ e
    refine Rt_ex _ ⟨_, chg3_ok (b := false) rfl rfl hm rfl hp0 hlpos, ?_⟩
    refine Rt_ex _ ⟨_, e4 rfl rfl, ?_⟩
    refine ⟨_, Rt_ret ((chg_yes rfl hm).trans (ret_ok (b2_ok (sl_hi rfl rfl (take_d p)) (sl_lo rfl (b2_ok rfl rfl (add_ii _ _)) (drop_d (p + 1))) (add_ll (by simp; omega))))), ws.take p ++ ws.drop (p + 1), by rw [List.map_append], hkeep p, by simp; omega⟩
  · have hm := hmi _ e
    refine Rt_ex _ ⟨_, chg3_ok (b := false) rfl rfl hm rfl hp0 hlpos, ?_⟩
    refine Rt_ex _ ⟨_, e4 rfl rfl, ?_⟩
    refine Rt_ex _ ⟨_, chg_no (k := 0) rfl hm (by decide), ?_⟩
    refine ⟨_, Rt_ret ((chg_yes rfl hm).trans (ret_ok (b2_ok (b2_ok (sl_hi rfl rfl (take_d p)) (mk1_ok rfl) (add_ll (by simp; omega))) (sl_lo rfl (b2_ok rfl rfl (add_ii _ _)) (drop_d (p + 1))) (add_ll (by simp; omega))))), ws.take p ++ [w] ++ ws.drop (p + 1), by simp, hin p (p + 1) w hw, by simp; omega⟩
  · have hm := hmi _ e
    refine Rt_ex _ ⟨_, chg3_ok (b := true) rfl rfl hm rfl hp1 hlpos, ?_⟩
    refine Rt_ex _ ⟨_, e4 rfl rfl, ?_⟩
    refine Rt_ex _ ⟨_, chg_no (k := 0) rfl hm (by decide), ?_⟩
    refine Rt_ex _ ⟨_, chg_no (k := 1) rfl hm (by decide), ?_⟩
    refine ⟨_, Rt_ret ((chg_yes rfl hm).trans (ret_ok (b2_ok (b2_ok (sl_hi rfl rfl (take_d q)) (mk1_ok rfl) (add_ll (by simp; omega))) (sl_lo rfl rfl (drop_d q)) (add_ll (by simp; omega))))), ws.take q ++ [w] ++ ws.drop q, by simp, hin q q w hw, by simp; omega⟩
  · have hm := hmi _ e
    refine Rt_ex _ ⟨_, chg3_ok (b := true) rfl rfl hm rfl hp1 hlpos, ?_⟩
    refine Rt_ex _ ⟨_, e4 rfl rfl, ?_⟩
    refine Rt_ex _ ⟨_, chg_no (k := 0) rfl hm (by decide), ?_⟩
    refine Rt_ex _ ⟨_, chg_no (k := 1) rfl hm (by decide), ?_⟩
    refine Rt_ex _ ⟨_, chg_no (k := 2) rfl hm (by decide), ?_⟩
    refine Rt_ex _ ⟨_, chg_no (k := 4) rfl hm (by decide), ?_⟩
    refine ⟨_, congrArg Rt (ret_ok (b2_ok (b2_ok (sl_hi rfl rfl (take_d q)) (mk1_ok rfl) (add_ll (by simp; omega))) (sl_lo rfl rfl (drop_d q)) (add_ll (by simp; omega)))), ws.take q ++ [("" : Str)] ++ ws.drop q, by simp, hin q q "" (cl_of (by decide +kernel)), by simp; omega⟩
  · have hm := hmi _ e
    have hix5 : ixD (.lst (ws.map T.str)) (.t (.int (p : Int))) = .ok (.t (.str (ws[p]'b0))) := by
      rw [ix_l, atI_nat, List.getElem?_map, List.getElem?_eq_getElem b0]; rfl
    obtain ⟨k, v, hv, hk, a, b, u, c, x1, x2, x3, x4, x5⟩ := sign_ch s (hcl _ (List.getElem_mem b0))
    have hlw := (hcl _ (List.getElem_mem b0)).1
    generalize ws[p]'b0 = z at hix5 hk x1 x2 hlw
    have hx3 : modD (.t (.int ((s : Int) / 7))) (.t (.int 2)) = .ok (.t (.int ((s : Int) / 7 % 2))) := mod_ii _ _ (by decide)
    have hlz : lenD [.t (.str z)] = .ok (.t (.int (z.length : Int))) := by
      show (if z.length ≤ 16777216 then R.ok (D.t (.int z.length)) else .stuck) = _
      rw [if_pos (by omega)]
    refine Rt_ex _ ⟨_, chg3_ok (b := false) rfl rfl hm rfl hp0 hlpos, ?_⟩
    refine Rt_ex _ ⟨_, e4 rfl rfl, ?_⟩
    refine Rt_ex _ ⟨_, chg_no (k := 0) rfl hm (by decide), ?_⟩
    refine Rt_ex _ ⟨_, chg_no (k := 1) rfl hm (by decide), ?_⟩
    refine Rt_ex _ ⟨_, chg_no (k := 2) rfl hm (by decide), ?_⟩
    refine ⟨_, Rt_ret ((chg_yes rfl hm).trans ((seq_nx (set_ok (b2_ok rfl rfl hix5))).trans ((seq_nx (set_ok (b2_ok (b2_ok rfl rfl hd512) (ap2_ok rfl (ap1_ok rfl hlz) rfl) hk))).trans (ret_ok (b2_ok (b2_ok (sl_hi rfl rfl (take_d p)) (mk1_ok (b2_ok (b2_ok (sl_hi rfl rfl x1) (b2_ok rfl (b2_ok (b2_ok rfl rfl hd7) rfl hx3) x3) x4) (sl_lo rfl (b2_ok rfl rfl (add_ii _ _)) x2) x5)) (add_ll (by simp; omega))) (sl_lo rfl (b2_ok rfl rfl (add_ii _ _)) (drop_d (p + 1))) (add_ll (by simp; omega))))))), ws.take p ++ [v] ++ ws.drop (p + 1), by simp, hin p (p + 1) v hv, by simp; omega⟩
end Pf

set_option Elab.async false
set_option linter.all false
set_option maxRecDepth 100000
set_option maxHeartbeats 4000000
namespace Pf
open PySem L2 TL
/-! ## what the law puts about its statement -/
theorem great_wr {f : F} {d c : Nat} {n v : Int} {x : Str} (hx : Nm x) (hn : Ten60 n) (hv : v ≠ 0) (hv2 : Ten60 v) (h : Wr f d c) (hd : 1 ≤ d) : Wr (.nd false [.e .nought n [(x, v)], f]) (d + 1) (c + 8) := by
  obtain ⟨h1, h2, h3, h5, h6⟩ := h
  have hs : Sho .nought n [(x, v)] := by
    refine ⟨⟨⟨hn, ?_, ?_⟩, fun g e => by cases e⟩, by simp⟩
    · unfold Up; simp
    · intro p hp
      rw [List.mem_singleton] at hp
      subst hp
      exact ⟨hx, hv, hv2⟩
  constructor
  · simp only [F.fine, F.fines, List.length_cons, List.length_nil]
    exact ⟨small60 (by decide), hs.1, h1, trivial⟩
  · simp only [F.all, F.alls]
    exact ⟨hs, h2, trivial⟩
  · simp only [F.wid, F.wids, List.length_cons, List.length_nil]; omega
  · simp only [F.dep, F.deps]; omega
  · simp only [F.words, F.wordss, sumW, psW, List.length_cons, List.length_append, List.length_nil]; omega
theorem wrap_wr {f g : F} {d c : Nat} {b : Bool} {x : Str} (hx : Nm x) (h : Wr f d c) (hg : g = .nt f ∨ g = .nd true [f] ∨ g = .qn b x f ∨ g = .nd false [f]) : Wr g (d + 1) (c + 2) := by
  obtain ⟨h1, h2, h3, h5, h6⟩ := h
  rcases hg with e | e | e | e
  all_goals
    subst e
    constructor
    · simp only [F.fine, F.fines, List.length_cons, List.length_nil]
      simp [h1, hx, small60]
    · simp only [F.all, F.alls]; simp [h2]
    · simp only [F.wid, F.wids, List.length_cons, List.length_nil]; omega
    · simp only [F.dep, F.deps]; omega
    · simp only [F.words, F.wordss, List.length_cons, List.length_append, List.length_nil]; omega
def wrapB : Ev → R Out :=
  (seqO (setO 11 (b2 ixD (ap mkLst (cA (kS "some") (cA (kS "all") nA))) (b2 modD (b2 divD (rdE 5) (kI 5)) (kI 2))))
      (seqO (setO 12 (b2 addD (b2 divD (ap m_law_cell_at (cA (rdE 0) (cA (kI 8) nA))) (kI 32)) (rdE 5)))
      (seqO (setO 13 (ap mkLst (cA (ap mkTup (cA (kS "not") (cA (rdE 3) nA))) (cA (ap mkTup (cA (kS "and") (cA (ap mkTup (cA (rdE 3) nA)) nA))) (cA (ap mkTup (cA (rdE 11) (cA (b2 ixD (rdE 1) (b2 modD (b2 divD (rdE 12) (kI 5)) (kI 4))) (cA (rdE 3) nA)))) nA)))))
      (setO 3 (b2 ixD (b2 addD (rdE 13) (ap mkLst (cA (ap mkTup (cA (kS "or") (cA (ap mkTup (cA (rdE 3) nA)) nA))) (cA (ap mkTup (cA (kS "not") (cA (rdE 3) nA))) nA)))) (b2 modD (rdE 12) (kI 5)))))))
theorem wrap_body (ns : List Int) {N : List Str} (i : Int) {f : F} {d c : Nat} (k2 k4 k6 k7 k8 k9 k10 k11 k12 k13 : Sl) (h4 : N.length = 4) (hn : ∀ x ∈ N, Nm x) (h : Wr f d c) :
    ∃ (g : F) (l11 l12 l13 : Sl), wrapB [.d (.scr ns) false, .d (.lst (N.map T.str)) true, k2, .d (.t f.enc) true, k4, .d (.t (.int i)) true, k6, k7, k8, k9, k10, k11, k12, k13] = .ok (.nx [.d (.scr ns) false, .d (.lst (N.map T.str)) true, k2, .d (.t g.enc) true, k4, .d (.t (.int i)) true, k6, k7, k8, k9, k10, l11, l12, l13]) ∧ Wr g (d + 1) (c + 2) := by
  have c8 : m_law_cell_at [.scr ns, .t (.int 8)] = .ok (.t (.int (cell ns 8))) := cell_s ns 8
  generalize cell ns 8 = z at c8
  generalize he : z / 32 + i = e
  have hix : ixD (.lst (N.map T.str)) (.t (.int (e / 5 % 4))) = .ok (.t (.str (N[(e / 5 % 4).toNat]'(by omega)))) := by
    rw [ix_l, atI_pos _ (by omega), List.getElem?_map, List.getElem?_eq_getElem (by omega)]
    rfl
  have hmem : N[(e / 5 % 4).toNat]'(by omega) ∈ N := List.getElem_mem _
  generalize hx : N[(e / 5 % 4).toNat]'(by omega) = x at hix hmem
  have hq : ∃ b : Bool, ixD (.lst [.str "some", .str "all"]) (.t (.int (i / 5 % 2))) = .ok (.t (.str (qw b))) := by
    have h2 : i / 5 % 2 = 0 ∨ i / 5 % 2 = 1 := by omega
    rcases h2 with h | h
    · exact ⟨true, by simp [h]⟩
    · exact ⟨false, by simp [h]⟩
  obtain ⟨b, hb⟩ := hq
  have hnx := hn x hmem
  have key : ∀ (g : F), (g = .nt f ∨ g = .nd true [f] ∨ g = .qn b x f ∨ g = .nd false [f]) → ixD (.lst [T.tup [.str "not", f.enc], .tup [.str "and", .tup [f.enc]], .tup [.str (qw b), .str x, f.enc], .tup [.str "or", .tup [f.enc]], .tup [.str "not", f.enc]]) (.t (.int (e % 5))) = .ok (.t g.enc) → ∃ (g : F) (l11 l12 l13 : Sl), wrapB [.d (.scr ns) false, .d (.lst (N.map T.str)) true, k2, .d (.t f.enc) true, k4, .d (.t (.int i)) true, k6, k7, k8, k9, k10, k11, k12, k13] = .ok (.nx [.d (.scr ns) false, .d (.lst (N.map T.str)) true, k2, .d (.t g.enc) true, k4, .d (.t (.int i)) true, k6, k7, k8, k9, k10, l11, l12, l13]) ∧ Wr g (d + 1) (c + 2) := by
    intro g hg hi
    refine ⟨g, .d (.t (.str (qw b))) true, .d (.t (.int e)) true, .d (.lst [T.tup [.str "not", f.enc], .tup [.str "and", .tup [f.enc]], .tup [.str (qw b), .str x, f.enc]]) true, ?_, wrap_wr hnx h hg⟩
    unfold wrapB
    simp [-ix_l, c8, hb, hix, he, hi, addD]
  have h5 : e % 5 = 0 ∨ e % 5 = 1 ∨ e % 5 = 2 ∨ e % 5 = 3 ∨ e % 5 = 4 := by omega
  rcases h5 with h | h | h | h | h
  · exact key (.nt f) (.inl rfl) (by simp [h, F.enc])
  · exact key (.nd true [f]) (.inr (.inl rfl)) (by simp [h, F.enc, F.encs, bw])
  · exact key (.qn b x f) (.inr (.inr (.inl rfl))) (by simp [h, F.enc])
  · exact key (.nd false [f]) (.inr (.inr (.inr rfl))) (by simp [h, F.enc, F.encs, bw])
  · exact key (.nt f) (.inl rfl) (by simp [h, F.enc])
theorem forRO_n {j : Nat} {f : Ev → R (List D)} {body : Ev → R Out} {ρ : Ev} {n : Nat} (hf : f ρ = .ok [.t (.int (n : Int))]) (hn : n < 4611686018427387904) : forRO j f rng1 body ρ = forR j body (rngT 0 n) ρ := by
  show (f ρ >>= rng1 >>= fun p => forR j body (rngT p.1 p.2) ρ) = _
  rw [hf]
  show (rng1 [.t (.int (n : Int))] >>= fun p => forR j body (rngT p.1 p.2) ρ) = _
  rw [rng1_n n hn]
  rfl
/-- a statement's text is read back -/
theorem read_alike {f : F} {d c : Nat} (h : Wr f d c) (hd : f.dep ≤ 40) (hc : c ≤ 10000) : m_law_read [.t (.str (Txt.join " " f.words))] = .ok (.t (.tup [.str "statement", f.enc])) ∧ m_law_alike 100 [.t (.tup [.str "statement", f.enc]), .t (.tup [.str "statement", f.enc])] = .ok (.t (.bl true)) := by
  have hln := h.len
  have hst := stS_words f 40 [] hd h.fine
  rw [List.append_nil] at hst
  have hg := stS_good 40 f.words f [] hst (by omega) 99 (by omega)
  refine ⟨law_read_words f hd h.fine (by omega), alike_self 100 _ ?_⟩
  show goodT (99 + 1) _ = true
  unfold goodT
  simp only [goodTs, hg, Bool.and_true, Bool.and_eq_true]
  exact ⟨decide_eq_true (by simp), rfl⟩
end Pf

set_option Elab.async false
set_option linter.all false
set_option maxRecDepth 100000
set_option maxHeartbeats 4000000
namespace Pf
open PySem L2
noncomputable section
/-! ## mirrors -/
def g_law : Ev → R Out :=
  (seqO (setO 1 (ap m_law_names_by (cA (ap m_law_cell_at (cA (rdE 0) (cA (kI 0) nA))) nA)))
  (seqO (setO 2 (b2 ixD (ap mkLst (cA (kI 6) (cA (b2 subD (b2 powD (kI 10) (kI 60)) (kI 1)) nA))) (b2 modD (b2 divD (ap m_law_cell_at (cA (rdE 0) (cA (kI 1) nA))) (kI 5)) (kI 2))))
  (seqO (setO 3 (ap m_law_plain_by (cA (rdE 0) (cA (kI 9) (cA (b2 addD (kI 1) (b2 modD (ap m_law_cell_at (cA (rdE 0) (cA (kI 1) nA))) (kI 5))) (cA (sl3 (rdE 1) sN (sS (kI 3))) (cA (kI 3) (cA (rdE 2) nA))))))))
  (seqO (setO 4 (ap mkTup (cA (ap m_law_big_by (cA (ap m_law_cell_at (cA (rdE 0) (cA (kI 2) nA))) nA)) (cA (ap mkTup (cA (ap mkTup (cA (b2 ixD (rdE 1) (kI 3)) (cA (b2 addD (b2 mulD (ap m_law_big_by (cA (b2 divD (ap m_law_cell_at (cA (rdE 0) (cA (kI 3) nA))) (kI 2)) nA)) (kI 2)) (kI 1)) nA))) nA)) nA))))
  (seqO (ifO (tAnd2 (tV (b2 ltD (b2 ixD (b2 ixD (b2 ixD (rdE 4) (kI 1)) (kI 0)) (kI 1)) (b2 powD (kI 10) (kI 60)))) (tV (b2 gtD (b2 ixD (b2 ixD (b2 ixD (rdE 4) (kI 1)) (kI 0)) (kI 1)) (b2 subD (kI 0) (b2 powD (kI 10) (kI 60)))))) (setO 3 (ap mkTup (cA (kS "or") (cA (ap mkTup (cA (ap mkTup (cA (kS "nought") (cA (rdE 4) nA))) (cA (rdE 3) nA))) nA)))) nxO)
  (seqO (forRO 5 (cA (b2 modD (ap m_law_cell_at (cA (rdE 0) (cA (kI 4) nA))) (kI 4)) nA) rng1 (setO 3 (ap m_law_bound_by (cA (ap m_law_cell_at (cA (rdE 0) (cA (b2 addD (kI 5) (rdE 5)) nA))) (cA (rdE 3) (cA (rdE 1) nA))))))
  (seqO (ifO (tV (b2 eqD (b2 modD (ap m_law_cell_at (cA (rdE 0) (cA (kI 8) nA))) (kI 4)) (kI 1))) (forRO 5 (cA (b2 subD (b2 addD (kI 40) (b2 modD (b2 divD (ap m_law_cell_at (cA (rdE 0) (cA (kI 8) nA))) (kI 4)) (kI 2))) (ap (m_law_within 100) (cA (rdE 3) nA))) nA) rng1 (seqO (setO 11 (b2 ixD (ap mkLst (cA (kS "some") (cA (kS "all") nA))) (b2 modD (b2 divD (rdE 5) (kI 5)) (kI 2))))
      (seqO (setO 12 (b2 addD (b2 divD (ap m_law_cell_at (cA (rdE 0) (cA (kI 8) nA))) (kI 32)) (rdE 5)))
      (seqO (setO 13 (ap mkLst (cA (ap mkTup (cA (kS "not") (cA (rdE 3) nA))) (cA (ap mkTup (cA (kS "and") (cA (ap mkTup (cA (rdE 3) nA)) nA))) (cA (ap mkTup (cA (rdE 11) (cA (b2 ixD (rdE 1) (b2 modD (b2 divD (rdE 12) (kI 5)) (kI 4))) (cA (rdE 3) nA)))) nA)))))
      (setO 3 (b2 ixD (b2 addD (rdE 13) (ap mkLst (cA (ap mkTup (cA (kS "or") (cA (ap mkTup (cA (rdE 3) nA)) nA))) (cA (ap mkTup (cA (kS "not") (cA (rdE 3) nA))) nA)))) (b2 modD (rdE 12) (kI 5)))))))) nxO)
  (seqO (setO 6 (ap (m_law_words 100) (cA (rdE 3) nA)))
  (seqO (setO 7 (b2 joinD (kS " ") (rdE 6)))
  (seqO (ifO (tV (b2 neD gl_MOST_WITHIN (kI 40))) (retO (kB false)) nxO)
  (seqO (ifO (tV (b2 leD (ap (m_law_within 100) (cA (rdE 3) nA)) (kI 40))) (seqO (setO 9 (ap m_written (cA (rdE 3) nA)))
    (ifO (tOr2 (tNot1 (tV (u1 (isiD "str") (rdE 9)))) (tOr2 (tV (b2 neD (rdE 9) (rdE 7))) (tNot1 (tV (ap (m_law_alike 100) (cA (ap m_law_read (cA (rdE 7) nA)) (cA (ap mkTup (cA (kS "statement") (cA (rdE 3) nA))) nA))))))) (retO (kB false)) nxO)) nxO)
  (seqO (setO 8 (b2 ixD (ap mkLst (cA (kS "\n") (cA (kS "\t") (cA (kS " ") (cA (kS "\n\n") nA))))) (b2 modD (b2 divD (ap m_law_cell_at (cA (rdE 0) (cA (kI 8) nA))) (kI 8)) (kI 4))))
  (seqO (ifO (tOr2 (tNot1 (tV (ap m_law_is_due (cA (rdE 7) nA)))) (tOr2 (tNot1 (tV (ap m_law_is_due (cA (b2 addD (rdE 7) (rdE 8)) nA)))) (tNot1 (tV (ap m_law_is_due (cA (b2 addD (rdE 8) (rdE 7)) nA)))))) (retO (kB false)) nxO)
  (seqO (forRO 5 (cA (kI 4) nA) rng1 (seqO (setO 10 (b2 modD (b2 mulD (b2 addD (b2 addD (b2 divD (ap m_law_cell_at (cA (rdE 0) (cA (kI 1) nA))) (kI 5)) (kI 1)) (rdE 5)) (kI 48271)) (kI 2147483647)))
    (ifO (tNot1 (tV (ap m_law_is_due (cA (b2 joinD (kS " ") (ap m_law_changed (cA (rdE 6) (cA (rdE 10) nA)))) nA)))) (retO (kB false)) nxO)))
  (retO (kB true))))))))))))))))
def m_law : List D → R D := runDef 13 g_law
end
end Pf

set_option Elab.async false
set_option linter.all false
set_option maxRecDepth 100000
set_option maxHeartbeats 4000000
namespace Pf
open PySem L2 TL
/-! ## the plain law -/
theorem Rt_seq_ex {a b : Ev → R Out} {ρ : Ev} {d : R D} (P : Ev → Prop) (h : ∃ ρ', a ρ = .ok (.nx ρ') ∧ P ρ') (h2 : ∀ ρ', P ρ' → Rt (b ρ') = d) : Rt (seqO a b ρ) = d := by
  obtain ⟨ρ', e, p⟩ := h
  exact (Rt_seq e).trans (h2 ρ' p)
theorem loopO_ex {j n : Nat} {f : Ev → R (List D)} {body : Ev → R Out} {ρ : Ev} {P : Ev → Prop} (I : Nat → Ev → Prop) (hf : f ρ = .ok [.t (.int (n : Int))]) (hn : n < 4611686018427387904) (h0 : I 0 ρ)
    (h : ∀ (i : Nat) ρ, i < n → I i ρ → ∃ ρ', body (ρ.set j (.d (.t (.int (0 + (i : Int)))) true)) = .ok (.nx ρ') ∧ I (i + 1) ρ') (hP : ∀ ρ', I n ρ' → P ρ') : ∃ ρ', forRO j f rng1 body ρ = .ok (.nx ρ') ∧ P ρ' := by
  rw [forRO_n hf hn]
  obtain ⟨ρ', e, hI⟩ := forR_rng I h h0
  exact ⟨ρ', e, hP ρ' hI⟩
theorem wr_le {f : F} {d d' c c' : Nat} (h : Wr f d c) (h1 : d ≤ d') (h2 : c ≤ c') : Wr f d' c' := by
  obtain ⟨a1, a2, a3, a4, a5⟩ := h
  exact ⟨a1, a2, a3, by omega, by omega⟩
theorem tx_le {x : Str} {n c n' c' : Nat} (h : Tx x n c) (h1 : n ≤ n') (h2 : c ≤ c') : Tx x n' c' := by
  obtain ⟨a1, a2, a3⟩ := h
  exact ⟨by omega, a2, by omega⟩
theorem add_tx {x y : Str} {n m c d : Nat} (h1 : Tx x n c) (h2 : Tx y m d) (h : n + m ≤ 16777216) : addD (.t (.str x)) (.t (.str y)) = .ok (.t (.str (x ++ y))) := by
  have a1 := h1.len
  have a2 := h2.len
  show (if x.length + y.length ≤ 16777216 then R.ok (D.t (.str (x ++ y))) else .stuck) = _
  rw [if_pos (by omega)]
def bndN : Nat → Nat
  | 0 => 860
  | n + 1 => 2 * bndN n + 9
theorem plain_law (ns : List Int) (h : ns.length ≤ 63) : m_law [.scr ns] = .ok (.t (.bl true)) := by
  unfold m_law g_law
  rw [runDef_Rt]
  have hn4 := nams_len (cell ns 0)
  have hnd := nams_nd (cell ns 0)
  have hnm := nams_nm (cell ns 0)
  have hN := nams_eq (cell ns 0)
  generalize nams (cell ns 0) = N at hn4 hnd hnm hN
  have c0 : m_law_cell_at [.scr ns, .t (.int 0)] = .ok (.t (.int (cell ns 0))) := cell_s ns 0
  have c1 : m_law_cell_at [.scr ns, .t (.int 1)] = .ok (.t (.int (cell ns 1))) := cell_s ns 1
  have c2 : m_law_cell_at [.scr ns, .t (.int 2)] = .ok (.t (.int (cell ns 2))) := cell_s ns 2
  have c3 : m_law_cell_at [.scr ns, .t (.int 3)] = .ok (.t (.int (cell ns 3))) := cell_s ns 3
  have c4 : m_law_cell_at [.scr ns, .t (.int 4)] = .ok (.t (.int (cell ns 4))) := cell_s ns 4
  have c8 : m_law_cell_at [.scr ns, .t (.int 8)] = .ok (.t (.int (cell ns 8))) := cell_s ns 8
  obtain ⟨P, hP, hpow⟩ : ∃ P : Int, P = 10 ^ 60 ∧ powD (.t (.int 10)) (.t (.int 60)) = .ok (.t (.int P)) := ⟨10 ^ 60, rfl, by simp only [powD]; rw [if_pos (by decide)]; rfl⟩
  obtain ⟨M, hM0, hM1, hMe⟩ : ∃ M : Int, 0 < M ∧ M < 10 ^ 60 ∧ ixD (.lst [.int 6, .int (P - 1)]) (.t (.int (cell ns 1 / 5 % 2))) = .ok (.t (.int M)) := by
    have h2 : cell ns 1 / 5 % 2 = 0 ∨ cell ns 1 / 5 % 2 = 1 := by omega
    rcases h2 with e | e
    · exact ⟨6, by decide, by decide, by rw [e]; rfl⟩
    · exact ⟨P - 1, by rw [hP]; decide, by omega, by rw [e]; rfl⟩
  obtain ⟨n, hn, hn1, hn5⟩ : ∃ n : Nat, 1 + cell ns 1 % 5 = n ∧ 1 ≤ n ∧ n ≤ 5 := ⟨(1 + cell ns 1 % 5).toNat, by omega, by omega, by omega⟩
  have ht3 : (N.take 3).length = 3 := by rw [List.length_take, hn4]; rfl
  have nd3 : (N.take 3).Nodup := (List.take_sublist 3 N).nodup hnd
  obtain ⟨f0, hf0, hpl⟩ := plain_by_ex ns 9 n (N.take 3) 3 M hn1 (by omega) (by omega) (by decide) (by decide) hM0
  have hpl' : m_law_plain_by [.scr ns, .t (.int 9), .t (.int n), .lst ((N.map T.str).take 3), .t (.int 3), .t (.int M)] = .ok (.t f0.enc) := by
    rw [← List.map_take]; exact hpl
  have hw0 : Wr f0 17 844 := plok_wr nd3 (fun x hx => hnm x (List.mem_of_mem_take hx)) (by omega) hM1 (by omega) hf0
  obtain ⟨x3, hx3, hx3e⟩ : ∃ x, Nm x ∧ ixD (.lst (N.map T.str)) (.t (.int 3)) = .ok (.t (.str x)) := ⟨N[3]'(by omega), hnm _ (List.getElem_mem _), by
    rw [ix_l, atI_3, List.getElem?_map, List.getElem?_eq_getElem (by omega)]; rfl⟩
  have hb1 := big_lt (cell ns 2)
  have hbe1 := big_eq (cell ns 2)
  have hbe2 := big_eq (cell ns 3 / 2)
  generalize big (cell ns 2) = n1 at hb1 hbe1
  generalize big (cell ns 3 / 2) = v1 at hbe2
  have hmul : mulD (.t (.int v1)) (.t (.int 2)) = .ok (.t (.int (v1 * 2))) := mul_r _ _ (by decide) (by decide)
  obtain ⟨v, hv, hve⟩ : ∃ v : Int, v ≠ 0 ∧ v1 * 2 + 1 = v := ⟨_, by omega, rfl⟩
  simp only [List.map_cons, List.map_nil, List.cons_append, List.nil_append, un_s, un_0]
  refine (Rt_seq (ρ' := [.d (.scr ns) false, .d (.lst (N.map T.str)) true, .un, .un, .un, .un, .un, .un, .un, .un, .un, .un, .un, .un]) (by simp [c0, hN])).trans ?_
  refine (Rt_seq (ρ' := [.d (.scr ns) false, .d (.lst (N.map T.str)) true, .d (.t (.int M)) true, .un, .un, .un, .un, .un, .un, .un, .un, .un, .un, .un]) (by simp [-ix_l, c1, hpow, hMe])).trans ?_
  refine (Rt_seq (ρ' := [.d (.scr ns) false, .d (.lst (N.map T.str)) true, .d (.t (.int M)) true, .d (.t f0.enc) true, .un, .un, .un, .un, .un, .un, .un, .un, .un, .un]) (by simp [c1, hn, hpl'])).trans ?_
  refine (Rt_seq (ρ' := [.d (.scr ns) false, .d (.lst (N.map T.str)) true, .d (.t (.int M)) true, .d (.t f0.enc) true, .d (.t (smT n1 [(x3, v)])) true, .un, .un, .un, .un, .un, .un, .un, .un, .un]) (by simp [-ix_l, c2, c3, hbe1, hbe2, hmul, hx3e, hve, smT, prT])).trans ?_
  -- the great sum
  refine Rt_seq_ex (fun ρ' => ∃ f, Wr f 18 860 ∧ ρ' = [.d (.scr ns) false, .d (.lst (N.map T.str)) true, .d (.t (.int M)) true, .d (.t f.enc) true, .d (.t (smT n1 [(x3, v)])) true, .un, .un, .un, .un, .un, .un, .un, .un, .un]) ?_ ?_
  · have hs1 : ixD (.t (smT n1 [(x3, v)])) (.t (.int 1)) = .ok (.t (.tup [.tup [.str x3, .int v]])) := by simp [smT, prT]
    by_cases hc : v < P ∧ 0 - P < v
    · have hv2 : Ten60 v := by unfold Ten60; omega
      refine ⟨_, ?_, .nd false [.e .nought n1 [(x3, v)], f0], wr_le (great_wr hx3 hb1 hv hv2 hw0 (by decide)) (by decide) (by decide), rfl⟩
      have hc2 : -P < v := by omega
      rw [ifO_t (by simp [hs1, hpow, hc.1, hc2])]
      simp [F.enc, F.encs, bw]
    · refine ⟨_, ?_, f0, wr_le hw0 (by decide) (by decide), rfl⟩
      rw [ifO_f (by
        by_cases hc1 : v < P
        · have : ¬ 0 - P < v := fun q => hc ⟨hc1, q⟩
          simp [hs1, hpow, hc1, -Int.zero_sub, this]
        · simp [hs1, hpow, hc1])]
      rfl
  rintro ρ' ⟨f1, hw1, rfl⟩
  -- the bounds
  refine Rt_seq_ex (fun ρ' => ∃ f k5, Wr f 33 6943 ∧ ρ' = [.d (.scr ns) false, .d (.lst (N.map T.str)) true, .d (.t (.int M)) true, .d (.t f.enc) true, .d (.t (smT n1 [(x3, v)])) true, k5, .un, .un, .un, .un, .un, .un, .un, .un]) ?_ ?_
  · obtain ⟨m, hm, hm3⟩ : ∃ m : Nat, cell ns 4 % 4 = (m : Int) ∧ m ≤ 3 := ⟨(cell ns 4 % 4).toNat, by omega, by omega⟩
    refine loopO_ex (n := m) (fun i ρ' => ∃ f k5, Wr f (18 + 5 * i) (bndN i) ∧ ρ' = [.d (.scr ns) false, .d (.lst (N.map T.str)) true, .d (.t (.int M)) true, .d (.t f.enc) true, .d (.t (smT n1 [(x3, v)])) true, k5, .un, .un, .un, .un, .un, .un, .un, .un]) (by simp [c4, hm]) (by omega) ⟨f1, .un, hw1, rfl⟩ ?_ ?_
    · rintro i ρ hi ⟨f, k5, hw, rfl⟩
      obtain ⟨g, hg, hgw⟩ := bound_wr (cell ns (5 + i)) hn4 hnm hw
      have hc : m_law_cell_at [.scr ns, .t (.int (5 + (0 + (i : Int))))] = .ok (.t (.int (cell ns (5 + i)))) := by
        have e : (5 : Int) + (0 + (i : Int)) = ((5 + i : Nat) : Int) := by omega
        rw [e]; exact cell_s ns (5 + i)
      have hg' : Wr g (18 + 5 * (i + 1)) (bndN (i + 1)) := wr_le hgw (by omega) (Nat.le_refl _)
      refine ⟨_, ?_, g, .d (.t (.int (0 + (i : Int)))) true, hg', rfl⟩
      simp [-Int.zero_add, hc, hg]
    · rintro ρ' ⟨f, k5, hw, rfl⟩
      have hb : bndN m ≤ 6943 := by
        have h4 : m = 0 ∨ m = 1 ∨ m = 2 ∨ m = 3 := by omega
        rcases h4 with e | e | e | e <;> subst e <;> decide
      exact ⟨f, k5, wr_le hw (by omega) hb, rfl⟩
  rintro ρ' ⟨f2, k5, hw2, rfl⟩
  -- the wraps
  refine Rt_seq_ex (fun ρ' => ∃ f k5 l11 l12 l13, Wr f 41 7100 ∧ ρ' = [.d (.scr ns) false, .d (.lst (N.map T.str)) true, .d (.t (.int M)) true, .d (.t f.enc) true, .d (.t (smT n1 [(x3, v)])) true, k5, .un, .un, .un, .un, .un, l11, l12, l13]) ?_ ?_
  · by_cases hq : cell ns 8 % 4 = 1
    · rw [ifO_t (by simp [c8, hq])]
      have hd := hw2.dep
      have hwi := within_eq 100 f2 (by omega) hw2.wid
      obtain ⟨m, hm, hm1⟩ : ∃ m : Nat, 40 + cell ns 8 / 4 % 2 - (f2.dep : Int) = (m : Int) ∧ f2.dep + m ≤ 41 := ⟨(40 + cell ns 8 / 4 % 2 - (f2.dep : Int)).toNat, by omega, by omega⟩
      have hw2' : Wr f2 f2.dep 6943 := by
        obtain ⟨a1, a2, a3, a4, a5⟩ := hw2
        exact ⟨a1, a2, a3, Nat.le_refl _, a5⟩
      refine loopO_ex (n := m) (fun i ρ' => ∃ f k5 l11 l12 l13, Wr f (f2.dep + i) (6943 + 2 * i) ∧ ρ' = [.d (.scr ns) false, .d (.lst (N.map T.str)) true, .d (.t (.int M)) true, .d (.t f.enc) true, .d (.t (smT n1 [(x3, v)])) true, k5, .un, .un, .un, .un, .un, l11, l12, l13]) (by simp [c8, hwi, hm]) (by omega) ⟨f2, k5, .un, .un, .un, hw2', rfl⟩ ?_ ?_
      · rintro i ρ hi ⟨f, k5, l11, l12, l13, hw, rfl⟩
        obtain ⟨g, m11, m12, m13, e, hg⟩ := wrap_body ns (0 + (i : Int)) (.d (.t (.int M)) true) (.d (.t (smT n1 [(x3, v)])) true) .un .un .un .un .un l11 l12 l13 hn4 hnm hw
        exact ⟨_, e, g, _, m11, m12, m13, wr_le hg (by omega) (by omega), rfl⟩
      · rintro ρ' ⟨f, k5, l11, l12, l13, hw, rfl⟩
        exact ⟨f, k5, l11, l12, l13, wr_le hw (by omega) (by omega), rfl⟩
    · rw [ifO_f (by simp [c8, hq])]
      exact ⟨_, rfl, f2, k5, .un, .un, .un, wr_le hw2 (by decide) (by decide), rfl⟩
  rintro ρ' ⟨f, k5, l11, l12, l13, hw, rfl⟩
  -- the words
  have hd := hw.dep
  have hln := hw.len
  have hwi := within_eq 100 f (by omega) hw.wid
  have hwd := (words_of_eq 100 f (by omega) (all_mono (fun k n ps q => sho_lg q) f hw.all) (by omega)).2
  have hcl := cl_words f hw.fine
  have hne : f.words ≠ [] := by have := words_pos f; intro e; rw [e] at this; simp at this
  have hjo := join_d hcl (by omega)
  have htx : Tx (Txt.join " " f.words) 447300 7100 := tx_le (tx_join hcl) (by omega) (by omega)
  have hwr := written_eq hw (by decide) (by decide)
  have hra : f.dep ≤ 40 → _ := fun q => read_alike hw q (by decide)
  generalize hx : Txt.join " " f.words = x at hjo htx hwr hra
  obtain ⟨t, ht, hte⟩ : ∃ t, Tx t 2 2 ∧ ixD (.lst [.str "\n", .str "\t", .str " ", .str "\n\n"]) (.t (.int (cell ns 8 / 8 % 4))) = .ok (.t (.str t)) := by
    obtain ⟨t1, t2, t3, t4⟩ := tail_tx
    have h4 : cell ns 8 / 8 % 4 = 0 ∨ cell ns 8 / 8 % 4 = 1 ∨ cell ns 8 / 8 % 4 = 2 ∨ cell ns 8 / 8 % 4 = 3 := by omega
    rcases h4 with e | e | e | e
    · exact ⟨_, t1, by rw [e]; rfl⟩
    · exact ⟨_, t2, by rw [e]; rfl⟩
    · exact ⟨_, t3, by rw [e]; rfl⟩
    · exact ⟨_, t4, by rw [e]; rfl⟩
  refine (Rt_seq (ρ' := [.d (.scr ns) false, .d (.lst (N.map T.str)) true, .d (.t (.int M)) true, .d (.t f.enc) true, .d (.t (smT n1 [(x3, v)])) true, k5, .d (.lst (f.words.map T.str)) true, .un, .un, .un, .un, l11, l12, l13]) (by simp [hwd])).trans ?_
  refine (Rt_seq (ρ' := [.d (.scr ns) false, .d (.lst (N.map T.str)) true, .d (.t (.int M)) true, .d (.t f.enc) true, .d (.t (smT n1 [(x3, v)])) true, k5, .d (.lst (f.words.map T.str)) true, .d (.t (.str x)) true, .un, .un, .un, l11, l12, l13]) (by simp [hjo])).trans ?_
  refine (Rt_seq (ρ' := [.d (.scr ns) false, .d (.lst (N.map T.str)) true, .d (.t (.int M)) true, .d (.t f.enc) true, .d (.t (smT n1 [(x3, v)])) true, k5, .d (.lst (f.words.map T.str)) true, .d (.t (.str x)) true, .un, .un, .un, l11, l12, l13]) (by simp)).trans ?_
  refine Rt_seq_ex (fun ρ' => ∃ k9, ρ' = [.d (.scr ns) false, .d (.lst (N.map T.str)) true, .d (.t (.int M)) true, .d (.t f.enc) true, .d (.t (smT n1 [(x3, v)])) true, k5, .d (.lst (f.words.map T.str)) true, .d (.t (.str x)) true, .un, k9, .un, l11, l12, l13]) ?_ ?_
  · by_cases hq : f.dep ≤ 40
    · have hqi : (f.dep : Int) ≤ 40 := by omega
      obtain ⟨hr, ha⟩ := hra hq
      rw [ifO_t (by simp [hwi, hqi])]
      exact ⟨_, by simp [hwr, hr, ha]; rfl, _, rfl⟩
    · have hqi : ¬ (f.dep : Int) ≤ 40 := by omega
      rw [ifO_f (by simp [hwi, hqi])]
      exact ⟨_, rfl, _, rfl⟩
  rintro ρ' ⟨k9, rfl⟩
  have d1 := tx_due htx (by decide) (by decide)
  have d2 := tx_due (tx_app htx ht) (by decide) (by decide)
  have d3 := tx_due (tx_app ht htx) (by decide) (by decide)
  have a1 := add_tx htx ht (by decide)
  have a2 := add_tx ht htx (by decide)
  refine (Rt_seq (ρ' := [.d (.scr ns) false, .d (.lst (N.map T.str)) true, .d (.t (.int M)) true, .d (.t f.enc) true, .d (.t (smT n1 [(x3, v)])) true, k5, .d (.lst (f.words.map T.str)) true, .d (.t (.str x)) true, .d (.t (.str t)) true, k9, .un, l11, l12, l13]) (by simp [-ix_l, c8, hte])).trans ?_
  refine (Rt_seq (ρ' := [.d (.scr ns) false, .d (.lst (N.map T.str)) true, .d (.t (.int M)) true, .d (.t f.enc) true, .d (.t (smT n1 [(x3, v)])) true, k5, .d (.lst (f.words.map T.str)) true, .d (.t (.str x)) true, .d (.t (.str t)) true, k9, .un, l11, l12, l13]) (by simp [d1, d2, d3, a1, a2])).trans ?_
  -- the changed texts
  refine Rt_seq_ex (fun ρ' => True) ?_ ?_
  · refine loopO_ex (n := 4) (fun i ρ' => ∃ k5 k10, ρ' = [.d (.scr ns) false, .d (.lst (N.map T.str)) true, .d (.t (.int M)) true, .d (.t f.enc) true, .d (.t (smT n1 [(x3, v)])) true, k5, .d (.lst (f.words.map T.str)) true, .d (.t (.str x)) true, .d (.t (.str t)) true, k9, k10, l11, l12, l13]) (by simp) (by decide) ⟨k5, .un, rfl⟩ ?_ (fun _ _ => trivial)
    rintro i ρ hi ⟨k5, k10, rfl⟩
    obtain ⟨s, hs⟩ : ∃ s : Nat, (cell ns 1 / 5 + 1 + (0 + (i : Int))) * 48271 % 2147483647 = (s : Int) := ⟨((cell ns 1 / 5 + 1 + (0 + (i : Int))) * 48271 % 2147483647).toNat, by omega⟩
    obtain ⟨d, hch, vs, rfl, hvc, hvl⟩ := changed_ok f.words s hne hcl (by omega)
    have hvj := join_d hvc (by omega)
    have hvt := tx_due (tx_join hvc) (by omega) (by omega)
    have hmu : mulD (.t (.int (cell ns 1 / 5 + 1 + (0 + (i : Int))))) (.t (.int 48271)) = .ok (.t (.int ((cell ns 1 / 5 + 1 + (0 + (i : Int))) * 48271))) := mul_r _ _ (by decide) (by decide)
    exact ⟨_, by simp [-Int.zero_add, c1, hmu, hs, hch, hvj, hvt], .d (.t (.int (0 + (i : Int)))) true, .d (.t (.int (s : Int))) true, rfl⟩
  · intro ρ' _
    rfl
end Pf

set_option Elab.async false
set_option linter.all false
set_option maxRecDepth 100000
set_option maxHeartbeats 4000000
namespace Pf
open PySem L2
def topS (i : Nat) : Stmt := PySem.Challenge.pw_somenumber_k10_notes.main.body.getD i (.Pass ⟨0, 0, 0, 0⟩)
abbrev s_sum_words : Stmt := topS 9
theorem sc_sum_words : FnScope ["one", "words", "pair"] ["one"] (defScope s_sum_words) := ⟨rfl, rfl, rfl, by decide +kernel, rfl, by decide +kernel, by decide +kernel⟩
abbrev s_words_of : Stmt := topS 10
theorem sc_words_of : FnScope ["statement", "kind", "words", "part"] ["statement"] (defScope s_words_of) := ⟨rfl, rfl, rfl, by decide +kernel, rfl, by decide +kernel, by decide +kernel⟩
abbrev s_written : Stmt := topS 11
theorem sc_written : FnScope ["statement"] ["statement"] (defScope s_written) := ⟨rfl, rfl, rfl, by decide +kernel, rfl, by decide +kernel, by decide +kernel⟩
abbrev s_word_at : Stmt := topS 12
theorem sc_word_at : FnScope ["words", "at"] ["words", "at"] (defScope s_word_at) := ⟨rfl, rfl, rfl, by decide +kernel, rfl, by decide +kernel, by decide +kernel⟩
abbrev s_number_at : Stmt := topS 13
theorem sc_number_at : FnScope ["words", "at", "word", "plain", "sign"] ["words", "at"] (defScope s_number_at) := ⟨rfl, rfl, rfl, by decide +kernel, rfl, by decide +kernel, by decide +kernel⟩
abbrev s_name_at : Stmt := topS 14
theorem sc_name_at : FnScope ["words", "at", "word", "sign"] ["words", "at"] (defScope s_name_at) := ⟨rfl, rfl, rfl, by decide +kernel, rfl, by decide +kernel, by decide +kernel⟩
abbrev s_sum_at : Stmt := topS 15
theorem sc_sum_at : FnScope ["words", "at", "number", "parts", "by", "name"] ["words", "at"] (defScope s_sum_at) := ⟨rfl, rfl, rfl, by decide +kernel, rfl, by decide +kernel, by decide +kernel⟩

abbrev s_parts_at : Stmt := topS 16
theorem sc_parts_at : FnScope ["words", "at", "within", "count", "parts", "part"] ["words", "at", "within"] (defScope s_parts_at) := ⟨rfl, rfl, rfl, by decide +kernel, rfl, by decide +kernel, by decide +kernel⟩
abbrev s_statement_at : Stmt := topS 17
theorem sc_statement_at : FnScope ["words", "at", "within", "kind", "number", "name", "one", "inner", "parts"] ["words", "at", "within"] (defScope s_statement_at) := ⟨rfl, rfl, rfl, by decide +kernel, rfl, by decide +kernel, by decide +kernel⟩
abbrev s_read : Stmt := topS 18
theorem sc_read : FnScope ["text", "words", "statement", "at"] ["text"] (defScope s_read) := ⟨rfl, rfl, rfl, by decide +kernel, rfl, by decide +kernel, by decide +kernel⟩
abbrev s_law_cell_at : Stmt := topS 20
theorem sc_law_cell_at : FnScope ["_law_script", "_law_k"] ["_law_script", "_law_k"] (defScope s_law_cell_at) := ⟨rfl, rfl, rfl, by decide +kernel, rfl, by decide +kernel, by decide +kernel⟩
abbrev s_law_whole : Stmt := topS 21
theorem sc_law_whole : FnScope ["_law_got"] ["_law_got"] (defScope s_law_whole) := ⟨rfl, rfl, rfl, by decide +kernel, rfl, by decide +kernel, by decide +kernel⟩
abbrev s_law_names_by : Stmt := topS 22
theorem sc_law_names_by : FnScope ["_law_cell", "_law_letters", "_law_size", "_law_word", "_law_number_here", "_law_k", "_law_spot", "_law_usual"] ["_law_cell"] (defScope s_law_names_by) := ⟨rfl, rfl, rfl, by decide +kernel, rfl, by decide +kernel, by decide +kernel⟩
abbrev s_law_sum_by : Stmt := topS 23
theorem sc_law_sum_by : FnScope ["_law_cell", "_law_names", "_law_wide", "_law_number_here", "_law_parts", "_law_name", "_law_by"] ["_law_cell", "_law_names", "_law_wide"] (defScope s_law_sum_by) := ⟨rfl, rfl, rfl, by decide +kernel, rfl, by decide +kernel, by decide +kernel⟩
abbrev s_law_end_by : Stmt := topS 24
theorem sc_law_end_by : FnScope ["_law_cell", "_law_names", "_law_wide", "_law_most", "_law_one"] ["_law_cell", "_law_names", "_law_wide", "_law_most"] (defScope s_law_end_by) := ⟨rfl, rfl, rfl, by decide +kernel, rfl, by decide +kernel, by decide +kernel⟩
abbrev s_law_plain_by : Stmt := topS 25
theorem sc_law_plain_by : FnScope ["_law_script", "_law_first", "_law_count", "_law_names", "_law_wide", "_law_most", "_law_begin", "_law_made_of", "_law_k", "_law_cell", "_law_end", "_law_way"] ["_law_script", "_law_first", "_law_count", "_law_names", "_law_wide", "_law_most"] (defScope s_law_plain_by) := ⟨rfl, rfl, rfl, by decide +kernel, rfl, by decide +kernel, by decide +kernel⟩
abbrev s_law_word_of : Stmt := topS 26
theorem sc_law_word_of : FnScope ["_law_e", "_law_words_here"] ["_law_e"] (defScope s_law_word_of) := ⟨rfl, rfl, rfl, by decide +kernel, rfl, by decide +kernel, by decide +kernel⟩
abbrev s_law_big_by : Stmt := topS 27
theorem sc_law_big_by : FnScope ["_law_cell", "_law_number_here", "_law_mixed", "_law_k"] ["_law_cell"] (defScope s_law_big_by) := ⟨rfl, rfl, rfl, by decide +kernel, rfl, by decide +kernel, by decide +kernel⟩
abbrev s_law_alike : Stmt := topS 28
theorem sc_law_alike : FnScope ["_law_got", "_law_due", "_law_k"] ["_law_got", "_law_due"] (defScope s_law_alike) := ⟨rfl, rfl, rfl, by decide +kernel, rfl, by decide +kernel, by decide +kernel⟩
abbrev s_law_bound_by : Stmt := topS 29
theorem sc_law_bound_by : FnScope ["_law_cell", "_law_statement", "_law_names", "_law_inner", "_law_way"] ["_law_cell", "_law_statement", "_law_names"] (defScope s_law_bound_by) := ⟨rfl, rfl, rfl, by decide +kernel, rfl, by decide +kernel, by decide +kernel⟩
abbrev s_law_sum_words : Stmt := topS 30
theorem sc_law_sum_words : FnScope ["_law_one", "_law_words_here", "_law_pair"] ["_law_one"] (defScope s_law_sum_words) := ⟨rfl, rfl, rfl, by decide +kernel, rfl, by decide +kernel, by decide +kernel⟩
abbrev s_law_words : Stmt := topS 31
theorem sc_law_words : FnScope ["_law_statement", "_law_kind", "_law_words_here", "_law_part"] ["_law_statement"] (defScope s_law_words) := ⟨rfl, rfl, rfl, by decide +kernel, rfl, by decide +kernel, by decide +kernel⟩
abbrev s_law_within : Stmt := topS 32
theorem sc_law_within : FnScope ["_law_statement", "_law_kind", "_law_part"] ["_law_statement"] (defScope s_law_within) := ⟨rfl, rfl, rfl, by decide +kernel, rfl, by decide +kernel, by decide +kernel⟩
abbrev s_law_number : Stmt := topS 33
theorem sc_law_number : FnScope ["_law_word", "_law_plain", "_law_sign"] ["_law_word"] (defScope s_law_number) := ⟨rfl, rfl, rfl, by decide +kernel, rfl, by decide +kernel, by decide +kernel⟩
abbrev s_law_is_name : Stmt := topS 34
theorem sc_law_is_name : FnScope ["_law_word", "_law_sign"] ["_law_word"] (defScope s_law_is_name) := ⟨rfl, rfl, rfl, by decide +kernel, rfl, by decide +kernel, by decide +kernel⟩
abbrev s_law_sum_along : Stmt := topS 35
theorem sc_law_sum_along : FnScope ["_law_words_here", "_law_parts", "_law_spot", "_law_by", "_law_name"] ["_law_words_here"] (defScope s_law_sum_along) := ⟨rfl, rfl, rfl, by decide +kernel, rfl, by decide +kernel, by decide +kernel⟩

abbrev s_law_parts_along : Stmt := topS 36
theorem sc_law_parts_along : FnScope ["_law_words_here", "_law_within_here", "_law_count", "_law_rest_of", "_law_parts", "_law_got"] ["_law_words_here", "_law_within_here"] (defScope s_law_parts_along) := ⟨rfl, rfl, rfl, by decide +kernel, rfl, by decide +kernel, by decide +kernel⟩
abbrev s_law_along : Stmt := topS 37
theorem sc_law_along : FnScope ["_law_words_here", "_law_within_here", "_law_kind", "_law_head", "_law_got"] ["_law_words_here", "_law_within_here"] (defScope s_law_along) := ⟨rfl, rfl, rfl, by decide +kernel, rfl, by decide +kernel, by decide +kernel⟩
abbrev s_law_changed : Stmt := topS 38
theorem sc_law_changed : FnScope ["_law_words_here", "_law_cell", "_law_others", "_law_spot", "_law_other", "_law_word", "_law_cut"] ["_law_words_here", "_law_cell"] (defScope s_law_changed) := ⟨rfl, rfl, rfl, by decide +kernel, rfl, by decide +kernel, by decide +kernel⟩
abbrev s_law_read : Stmt := topS 39
theorem sc_law_read : FnScope ["_law_text", "_law_e"] ["_law_text"] (defScope s_law_read) := ⟨rfl, rfl, rfl, by decide +kernel, rfl, by decide +kernel, by decide +kernel⟩
abbrev s_law_is_due : Stmt := topS 40
theorem sc_law_is_due : FnScope ["_law_text", "_law_got"] ["_law_text"] (defScope s_law_is_due) := ⟨rfl, rfl, rfl, by decide +kernel, rfl, by decide +kernel, by decide +kernel⟩
abbrev s_law : Stmt := topS 41
theorem sc_law : FnScope ["_law_script", "_law_names", "_law_most", "_law_statement", "_law_great", "_law_k", "_law_words_here", "_law_got", "_law_tail", "_law_note", "_law_cell", "_law_inner", "_law_far", "_law_wraps"] ["_law_script"] (defScope s_law) := ⟨rfl, rfl, rfl, by decide +kernel, rfl, by decide +kernel, by decide +kernel⟩
section
variable {P : Program} {w : World} {K : PySem.W.Frag} {mg : Str → Option Value} {base : Heap} {C : Nat → Addr}
theorem ok_sum_words (D_ : DefAt K mg "sum_words" s_sum_words) (z_str : mg "str" = none) : Cal P w K mg base C "sum_words" 1 1 m_sum_words :=
  cal_def (N := ["one", "words", "pair"]) (ps := ["one"]) D_ sc_sum_words (fun _ _ _ _ _ _ us hl => match us, hl with | [_], _ => rfl) rfl rfl (by decide) fun f cdv A outer s H E hr =>
    (sb_cons (ss_set (i := 1) (sn_lst (sa_cons (SN.toE (sn_strI (sa_cons (SN.toE (sn_sub_ix (se_var (pv 0)) (SN.toE sn_int))) sa_nil) z_str)) sa_nil)) sc_sum_words.nd)
    (sb_cons (ss_forT passOwnX rfl (SN.toE (sn_sub_ix (se_var (pv 0)) (SN.toE sn_int))) (pg_name (i := 2) sc_sum_words.nd rfl (by first | exact Or.inl rfl | exact Or.inr rfl)) (sb_one (ss_ext (pv 1) (SN.toE (sn_lst (sa_cons (SN.toE (sn_strI (sa_cons (SN.toE (sn_sub_ix (se_var (pv 2)) (SN.toE sn_int))) sa_nil) z_str)) (sa_cons (SN.toE (sn_sub_ix (se_var (pv 2)) (SN.toE sn_int))) sa_nil)))))))
    (sb_one (ss_ret (sn_add (se_var (pv 1)) (SN.toE (sn_lst (sa_cons (SN.toE sn_str) sa_nil))))))))
theorem ok_words_of (D_ : DefAt K mg "words_of" s_words_of) (c_sum_words : Cal P w K mg base C "sum_words" 1 1 m_sum_words) (z_str : mg "str" = none) (z_len : mg "len" = none) : ∀ n : Nat, Cal P w K mg base C "words_of" (1 + n) 1 (m_words_of n)
  | 0 => cal_none (ps := ["statement"]) D_ (fun _ _ _ _ _ _ us hl => match us, hl with | [_], _ => rfl) rfl
  | n + 1 => by
    have ih := ok_words_of D_ c_sum_words z_str z_len n
    exact cal_def (N := ["statement", "kind", "words", "part"]) (ps := ["statement"]) D_ sc_words_of (fun _ _ _ _ _ _ us hl => match us, hl with | [_], _ => rfl) rfl rfl (by decide) fun f cdv A outer s H E hr =>
    (sb_cons (ss_set (i := 1) (sn_sub_ix (se_var (pv 0)) (SN.toE sn_int)) sc_words_of.nd)
    (sb_cons (ss_if (st_eq hr.units (se_var (pv 1)) (SN.toE sn_str)) (sb_one (ss_ret (sn_add (SN.toE (sn_lst (sa_cons (SN.toE sn_str) sa_nil))) (SN.toE (sn_cal ih (hr.mono (Nat.le_refl _)) passX (sa_cons (SN.toE (sn_sub_ix (se_var (pv 0)) (SN.toE sn_int))) sa_nil)))))) sb_nil)
    (sb_cons (ss_if (SW.st (sw_or (st_eq hr.units (se_var (pv 1)) (SN.toE sn_str)) (sw_or1 (st_eq hr.units (se_var (pv 1)) (SN.toE sn_str))))) (sb_one (ss_ret (sn_add (SN.toE (sn_lst (sa_cons (se_var (pv 1)) (sa_cons (SN.toE (sn_sub_ix (se_var (pv 0)) (SN.toE sn_int))) sa_nil)))) (SN.toE (sn_cal ih (hr.mono (Nat.le_refl _)) passX (sa_cons (SN.toE (sn_sub_ix (se_var (pv 0)) (SN.toE sn_int))) sa_nil)))))) sb_nil)
    (sb_cons (ss_if (SW.st (sw_or (st_eq hr.units (se_var (pv 1)) (SN.toE sn_str)) (sw_or1 (st_eq hr.units (se_var (pv 1)) (SN.toE sn_str))))) (sb_cons (ss_set (i := 2) (sn_lst (sa_cons (se_var (pv 1)) (sa_cons (SN.toE (sn_strI (sa_cons (SN.toE (sn_len (sa_cons (SN.toE (sn_sub_ix (se_var (pv 0)) (SN.toE sn_int))) sa_nil) z_len)) sa_nil) z_str)) sa_nil))) sc_words_of.nd)
      (sb_cons (ss_forT passOwnX rfl (SN.toE (sn_sub_ix (se_var (pv 0)) (SN.toE sn_int))) (pg_name (i := 3) sc_words_of.nd rfl (by first | exact Or.inl rfl | exact Or.inr rfl)) (sb_one (ss_ext (pv 2) (SN.toE (sn_cal ih (hr.mono (Nat.le_refl _)) passX (sa_cons (se_var (pv 3)) sa_nil))))))
      (sb_one (ss_retN (pv 2))))) sb_nil)
    (sb_cons (ss_if (st_eq hr.units (se_var (pv 1)) (SN.toE sn_str)) (sb_one (ss_ret (sn_add (SN.toE (sn_lst (sa_cons (SN.toE sn_str) (sa_cons (SN.toE (sn_strI (sa_cons (SN.toE (sn_sub_ix (se_var (pv 0)) (SN.toE sn_int))) sa_nil) z_str)) sa_nil)))) (SN.toE (sn_cal c_sum_words (hr.mono (Nat.le_trans (by decide) (Nat.le_add_right _ _))) passX (sa_cons (SN.toE (sn_sub_ix (se_var (pv 0)) (SN.toE sn_int))) sa_nil)))))) sb_nil)
    (sb_one (ss_ret (sn_add (SN.toE (sn_lst (sa_cons (se_var (pv 1)) sa_nil))) (SN.toE (sn_cal c_sum_words (hr.mono (Nat.le_trans (by decide) (Nat.le_add_right _ _))) passX (sa_cons (SN.toE (sn_sub_ix (se_var (pv 0)) (SN.toE sn_int))) sa_nil)))))))))))
theorem ok_written (D_ : DefAt K mg "written" s_written) (c_words_of : Cal P w K mg base C "words_of" 101 1 (m_words_of 100)) : Cal P w K mg base C "written" 102 1 m_written :=
  cal_def (N := ["statement"]) (ps := ["statement"]) D_ sc_written (fun _ _ _ _ _ _ us hl => match us, hl with | [_], _ => rfl) rfl rfl (by decide) fun f cdv A outer s H E hr =>
    (sb_one (ss_ret (sn_join (SN.toE (sn_cal c_words_of (hr.mono (by decide)) passX (sa_cons (se_var (pv 0)) sa_nil))))))
theorem ok_word_at (D_ : DefAt K mg "word_at" s_word_at) (z_len : mg "len" = none) (e_NoNote : ExcAt K mg C "NoNote" 2) : Cal P w K mg base C "word_at" 1 2 m_word_at :=
  cal_def (N := ["words", "at"]) (ps := ["words", "at"]) D_ sc_word_at (fun _ _ _ _ _ _ us hl => match us, hl with | [_, _], _ => rfl) rfl rfl (by decide) fun f cdv A outer s H E hr =>
    (sb_cons (ss_if (st_ge (se_var (pv 1)) (SN.toE (sn_len (sa_cons (se_var (pv 0)) sa_nil) z_len))) (sb_one (ss_raise e_NoNote rfl takesX)) sb_nil)
    (sb_one (ss_ret (sn_sub_ix (se_var (pv 0)) (se_var (pv 1))))))
theorem ok_number_at (D_ : DefAt K mg "number_at" s_number_at) (c_word_at : Cal P w K mg base C "word_at" 1 2 m_word_at) (z_len : mg "len" = none) (z_int : mg "int" = none) (y_MOST_FIGURES : GlobT K mg "MOST_FIGURES" t_MOST_FIGURES) (e_NoNote : ExcAt K mg C "NoNote" 2) : Cal P w K mg base C "number_at" 2 2 m_number_at :=
  cal_def (N := ["words", "at", "word", "plain", "sign"]) (ps := ["words", "at"]) D_ sc_number_at (fun _ _ _ _ _ _ us hl => match us, hl with | [_, _], _ => rfl) rfl rfl (by decide) fun f cdv A outer s H E hr =>
    (sb_cons (ss_set (i := 2) (sn_cal c_word_at (hr.mono (by decide)) passX (sa_cons (se_var (pv 0)) (sa_cons (se_var (pv 1)) sa_nil))) sc_number_at.nd)
    (sb_cons (ss_set (i := 3) (sn_var (pv 2)) sc_number_at.nd)
    (sb_cons (ss_if (st_eq hr.units (SN.toE (sn_slice (se_var (pv 2)) so_none (so_some (SN.toE sn_int)))) (SN.toE sn_str)) (sb_one (ss_set (i := 3) (sn_slice (se_var (pv 2)) (so_some (SN.toE sn_int)) so_none) sc_number_at.nd)) sb_nil)
    (sb_cons (ss_if (SW.st (sw_or (st_eq hr.units (se_var (pv 3)) (SN.toE sn_str)) (sw_or (st_gt (SN.toE (sn_len (sa_cons (se_var (pv 3)) sa_nil) z_len)) (SN.toE (sn_globT (t := t_MOST_FIGURES) y_MOST_FIGURES))) (sw_or1 (st_eq hr.units (se_var (pv 2)) (SN.toE sn_str)))))) (sb_one (ss_raise e_NoNote rfl takesX)) sb_nil)
    (sb_cons (ss_if (SW.st (sw_and (st_eq hr.units (SN.toE (sn_sub_ix (se_var (pv 3)) (SN.toE sn_int))) (SN.toE sn_str)) (sw_and1 (st_gt (SN.toE (sn_len (sa_cons (se_var (pv 3)) sa_nil) z_len)) (SN.toE sn_int))))) (sb_one (ss_raise e_NoNote rfl takesX)) sb_nil)
    (sb_cons (ss_forS passOwnX rfl (se_var (pv 3)) (pg_name (i := 4) sc_number_at.nd rfl (by first | exact Or.inl rfl | exact Or.inr rfl)) (sb_one (ss_if (st_nin (hu_of hr) (se_var (pv 4)) (SN.toE sn_str)) (sb_one (ss_raise e_NoNote rfl takesX)) sb_nil)))
    (sb_one (ss_ret (sn_intS (sa_cons (se_var (pv 2)) sa_nil) z_int)))))))))
theorem ok_name_at (D_ : DefAt K mg "name_at" s_name_at) (c_word_at : Cal P w K mg base C "word_at" 1 2 m_word_at) (z_len : mg "len" = none) (y_LETTERS : GlobT K mg "LETTERS" t_LETTERS) (e_NoNote : ExcAt K mg C "NoNote" 2) : Cal P w K mg base C "name_at" 2 2 m_name_at :=
  cal_def (N := ["words", "at", "word", "sign"]) (ps := ["words", "at"]) D_ sc_name_at (fun _ _ _ _ _ _ us hl => match us, hl with | [_, _], _ => rfl) rfl rfl (by decide) fun f cdv A outer s H E hr =>
    (sb_cons (ss_set (i := 2) (sn_cal c_word_at (hr.mono (by decide)) passX (sa_cons (se_var (pv 0)) (sa_cons (se_var (pv 1)) sa_nil))) sc_name_at.nd)
    (sb_cons (ss_if (SW.st (sw_or (st_eq hr.units (se_var (pv 2)) (SN.toE sn_str)) (sw_or1 (st_gt (SN.toE (sn_len (sa_cons (se_var (pv 2)) sa_nil) z_len)) (SN.toE sn_int))))) (sb_one (ss_raise e_NoNote rfl takesX)) sb_nil)
    (sb_cons (ss_forS passOwnX rfl (se_var (pv 2)) (pg_name (i := 3) sc_name_at.nd rfl (by first | exact Or.inl rfl | exact Or.inr rfl)) (sb_one (ss_if (st_nin (hu_of hr) (se_var (pv 3)) (SN.toE (sn_globT (t := t_LETTERS) y_LETTERS))) (sb_one (ss_raise e_NoNote rfl takesX)) sb_nil)))
    (sb_one (ss_retN (pv 2))))))
theorem ok_sum_at (D_ : DefAt K mg "sum_at" s_sum_at) (c_number_at : Cal P w K mg base C "number_at" 2 2 m_number_at) (c_word_at : Cal P w K mg base C "word_at" 1 2 m_word_at) (c_name_at : Cal P w K mg base C "name_at" 2 2 m_name_at) (z_tuple : mg "tuple" = none) (e_NoNote : ExcAt K mg C "NoNote" 2) : Cal P w K mg base C "sum_at" 3 2 m_sum_at :=
  cal_def (N := ["words", "at", "number", "parts", "by", "name"]) (ps := ["words", "at"]) D_ sc_sum_at (fun _ _ _ _ _ _ us hl => match us, hl with | [_, _], _ => rfl) rfl rfl (by decide) fun f cdv A outer s H E hr =>
    (sb_cons (ss_set (i := 2) (sn_cal c_number_at (hr.mono (by decide)) passX (sa_cons (se_var (pv 0)) (sa_cons (se_var (pv 1)) sa_nil))) sc_sum_at.nd)
    (sb_cons (ss_set (i := 1) (sn_add (se_var (pv 1)) (SN.toE sn_int)) sc_sum_at.nd)
    (sb_cons (ss_set (i := 3) (sn_lst sa_nil) sc_sum_at.nd)
    (sb_cons (ss_while passOwnX (st_ne hr.units (SN.toE (sn_cal c_word_at (hr.mono (by decide)) passX (sa_cons (se_var (pv 0)) (sa_cons (se_var (pv 1)) sa_nil)))) (SN.toE sn_str)) (sb_cons (ss_set (i := 4) (sn_cal c_number_at (hr.mono (by decide)) passX (sa_cons (se_var (pv 0)) (sa_cons (se_var (pv 1)) sa_nil))) sc_sum_at.nd)
      (sb_cons (ss_set (i := 5) (sn_cal c_name_at (hr.mono (by decide)) passX (sa_cons (se_var (pv 0)) (sa_cons (SN.toE (sn_add (se_var (pv 1)) (SN.toE sn_int))) sa_nil))) sc_sum_at.nd)
      (sb_cons (ss_if (SW.st (sw_or (st_eq hr.units (se_var (pv 4)) (SN.toE sn_int)) (sw_or1 (SW.st (sw_and (st_ne hr.units (se_var (pv 3)) (SN.toE (sn_lst sa_nil))) (sw_and1 (st_le (se_var (pv 5)) (SN.toE (sn_sub_ix (SN.toE (sn_sub_ix (se_var (pv 3)) (SN.toE (sn_neg (SN.toE sn_int))))) (SN.toE sn_int)))))))))) (sb_one (ss_raise e_NoNote rfl takesX)) sb_nil)
      (sb_cons (ss_app (pv 3) (SN.toE (sn_tup (sa_cons (se_var (pv 5)) (sa_cons (se_var (pv 4)) sa_nil)))))
      (sb_one (ss_set (i := 1) (sn_add (se_var (pv 1)) (SN.toE sn_int)) sc_sum_at.nd)))))))
    (sb_one (ss_ret (sn_tup (sa_cons (SN.toE (sn_tup (sa_cons (se_var (pv 2)) (sa_cons (SN.toE (sn_tuple (sa_cons (se_var (pv 3)) sa_nil) z_tuple)) sa_nil)))) (sa_cons (SN.toE (sn_add (se_var (pv 1)) (SN.toE sn_int))) sa_nil)))))))))

theorem ok2_parts_at_statement_at (D_parts_at : DefAt K mg "parts_at" s_parts_at) (D_statement_at : DefAt K mg "statement_at" s_statement_at) (c_number_at : Cal P w K mg base C "number_at" 2 2 m_number_at) (c_word_at : Cal P w K mg base C "word_at" 1 2 m_word_at) (c_sum_at : Cal P w K mg base C "sum_at" 3 2 m_sum_at) (c_name_at : Cal P w K mg base C "name_at" 2 2 m_name_at) (z_len : mg "len" = none) (z_tuple : mg "tuple" = none) (y_MOST_WITHIN : GlobT K mg "MOST_WITHIN" t_MOST_WITHIN) (e_NoNote : ExcAt K mg C "NoNote" 2) : ∀ n : Nat, Cal P w K mg base C "parts_at" (3 + n) 3 (m_parts_at n) ∧ Cal P w K mg base C "statement_at" (3 + n) 3 (m_statement_at n)
  | 0 => ⟨cal_none (ps := ["words", "at", "within"]) D_parts_at (fun _ _ _ _ _ _ us hl => match us, hl with | [_, _, _], _ => rfl) rfl,
    cal_none (ps := ["words", "at", "within"]) D_statement_at (fun _ _ _ _ _ _ us hl => match us, hl with | [_, _, _], _ => rfl) rfl⟩
  | n + 1 => by
    obtain ⟨ih_parts_at, ih_statement_at⟩ := ok2_parts_at_statement_at D_parts_at D_statement_at c_number_at c_word_at c_sum_at c_name_at z_len z_tuple y_MOST_WITHIN e_NoNote n
    exact ⟨cal_def (N := ["words", "at", "within", "count", "parts", "part"]) (ps := ["words", "at", "within"]) D_parts_at sc_parts_at (fun _ _ _ _ _ _ us hl => match us, hl with | [_, _, _], _ => rfl) rfl rfl (by decide) fun f cdv A outer s H E hr =>
    (sb_cons (ss_set (i := 3) (sn_cal c_number_at (hr.mono (Nat.le_trans (by decide) (Nat.le_add_right _ _))) passX (sa_cons (se_var (pv 0)) (sa_cons (se_var (pv 1)) sa_nil))) sc_parts_at.nd)
    (sb_cons (ss_if (st_lt (se_var (pv 3)) (SN.toE sn_int)) (sb_one (ss_raise e_NoNote rfl takesX)) sb_nil)
    (sb_cons (ss_set (i := 1) (sn_add (se_var (pv 1)) (SN.toE sn_int)) sc_parts_at.nd)
    (sb_cons (ss_set (i := 4) (sn_lst sa_nil) sc_parts_at.nd)
    (sb_cons (ss_while passOwnX (st_lt (SN.toE (sn_len (sa_cons (se_var (pv 4)) sa_nil) z_len)) (se_var (pv 3))) (sb_cons (ss_unp (is := [5, 1]) rfl (SN.toE (sn_cal ih_statement_at (hr.mono (Nat.le_refl _)) passX (sa_cons (se_var (pv 0)) (sa_cons (se_var (pv 1)) (sa_cons (se_var (pv 2)) sa_nil))))) (pg_tup rfl (pgs_cons (pg_name (i := 5) sc_parts_at.nd rfl (Or.inl rfl)) (pgs_cons (pg_name (i := 1) sc_parts_at.nd rfl (Or.inl rfl)) pgs_nil))))
      (sb_one (ss_app (pv 4) (se_var (pv 5))))))
    (sb_one (ss_ret (sn_tup (sa_cons (SN.toE (sn_tuple (sa_cons (se_var (pv 4)) sa_nil) z_tuple)) (sa_cons (se_var (pv 1)) sa_nil)))))))))),
    cal_def (N := ["words", "at", "within", "kind", "number", "name", "one", "inner", "parts"]) (ps := ["words", "at", "within"]) D_statement_at sc_statement_at (fun _ _ _ _ _ _ us hl => match us, hl with | [_, _, _], _ => rfl) rfl rfl (by decide) fun f cdv A outer s H E hr =>
    (sb_cons (ss_set (i := 3) (sn_cal c_word_at (hr.mono (Nat.le_trans (by decide) (Nat.le_add_right _ _))) passX (sa_cons (se_var (pv 0)) (sa_cons (se_var (pv 1)) sa_nil))) sc_statement_at.nd)
    (sb_cons (ss_if (st_ge (se_var (pv 2)) (SN.toE (sn_globT (t := t_MOST_WITHIN) y_MOST_WITHIN))) (sb_one (ss_raise e_NoNote rfl takesX)) sb_nil)
    (sb_cons (ss_if (SW.st (sw_or (st_eq hr.units (se_var (pv 3)) (SN.toE sn_str)) (sw_or1 (st_eq hr.units (se_var (pv 3)) (SN.toE sn_str))))) (sb_cons (ss_unp (is := [6, 1]) rfl (SN.toE (sn_cal c_sum_at (hr.mono (Nat.le_trans (by decide) (Nat.le_add_right _ _))) passX (sa_cons (se_var (pv 0)) (sa_cons (SN.toE (sn_add (se_var (pv 1)) (SN.toE sn_int))) sa_nil)))) (pg_tup rfl (pgs_cons (pg_name (i := 6) sc_statement_at.nd rfl (Or.inl rfl)) (pgs_cons (pg_name (i := 1) sc_statement_at.nd rfl (Or.inl rfl)) pgs_nil))))
      (sb_one (ss_ret (sn_tup (sa_cons (SN.toE (sn_tup (sa_cons (se_var (pv 3)) (sa_cons (se_var (pv 6)) sa_nil)))) (sa_cons (se_var (pv 1)) sa_nil)))))) sb_nil)
    (sb_cons (ss_if (st_eq hr.units (se_var (pv 3)) (SN.toE sn_str)) (sb_cons (ss_set (i := 4) (sn_cal c_number_at (hr.mono (Nat.le_trans (by decide) (Nat.le_add_right _ _))) passX (sa_cons (se_var (pv 0)) (sa_cons (SN.toE (sn_add (se_var (pv 1)) (SN.toE sn_int))) sa_nil))) sc_statement_at.nd)
      (sb_cons (ss_if (st_lt (se_var (pv 4)) (SN.toE sn_int)) (sb_one (ss_raise e_NoNote rfl takesX)) sb_nil)
      (sb_cons (ss_unp (is := [6, 1]) rfl (SN.toE (sn_cal c_sum_at (hr.mono (Nat.le_trans (by decide) (Nat.le_add_right _ _))) passX (sa_cons (se_var (pv 0)) (sa_cons (SN.toE (sn_add (se_var (pv 1)) (SN.toE sn_int))) sa_nil)))) (pg_tup rfl (pgs_cons (pg_name (i := 6) sc_statement_at.nd rfl (Or.inl rfl)) (pgs_cons (pg_name (i := 1) sc_statement_at.nd rfl (Or.inl rfl)) pgs_nil))))
      (sb_one (ss_ret (sn_tup (sa_cons (SN.toE (sn_tup (sa_cons (SN.toE sn_str) (sa_cons (se_var (pv 4)) (sa_cons (se_var (pv 6)) sa_nil))))) (sa_cons (se_var (pv 1)) sa_nil)))))))) sb_nil)
    (sb_cons (ss_if (st_eq hr.units (se_var (pv 3)) (SN.toE sn_str)) (sb_cons (ss_unp (is := [7, 1]) rfl (SN.toE (sn_cal ih_statement_at (hr.mono (Nat.le_refl _)) passX (sa_cons (se_var (pv 0)) (sa_cons (SN.toE (sn_add (se_var (pv 1)) (SN.toE sn_int))) (sa_cons (SN.toE (sn_add (se_var (pv 2)) (SN.toE sn_int))) sa_nil))))) (pg_tup rfl (pgs_cons (pg_name (i := 7) sc_statement_at.nd rfl (Or.inl rfl)) (pgs_cons (pg_name (i := 1) sc_statement_at.nd rfl (Or.inl rfl)) pgs_nil))))
      (sb_one (ss_ret (sn_tup (sa_cons (SN.toE (sn_tup (sa_cons (SN.toE sn_str) (sa_cons (se_var (pv 7)) sa_nil)))) (sa_cons (se_var (pv 1)) sa_nil)))))) sb_nil)
    (sb_cons (ss_if (SW.st (sw_or (st_eq hr.units (se_var (pv 3)) (SN.toE sn_str)) (sw_or1 (st_eq hr.units (se_var (pv 3)) (SN.toE sn_str))))) (sb_cons (ss_unp (is := [8, 1]) rfl (SN.toE (sn_cal ih_parts_at (hr.mono (Nat.le_refl _)) passX (sa_cons (se_var (pv 0)) (sa_cons (SN.toE (sn_add (se_var (pv 1)) (SN.toE sn_int))) (sa_cons (SN.toE (sn_add (se_var (pv 2)) (SN.toE sn_int))) sa_nil))))) (pg_tup rfl (pgs_cons (pg_name (i := 8) sc_statement_at.nd rfl (Or.inl rfl)) (pgs_cons (pg_name (i := 1) sc_statement_at.nd rfl (Or.inl rfl)) pgs_nil))))
      (sb_one (ss_ret (sn_tup (sa_cons (SN.toE (sn_tup (sa_cons (se_var (pv 3)) (sa_cons (se_var (pv 8)) sa_nil)))) (sa_cons (se_var (pv 1)) sa_nil)))))) sb_nil)
    (sb_cons (ss_if (SW.st (sw_or (st_eq hr.units (se_var (pv 3)) (SN.toE sn_str)) (sw_or1 (st_eq hr.units (se_var (pv 3)) (SN.toE sn_str))))) (sb_cons (ss_set (i := 5) (sn_cal c_name_at (hr.mono (Nat.le_trans (by decide) (Nat.le_add_right _ _))) passX (sa_cons (se_var (pv 0)) (sa_cons (SN.toE (sn_add (se_var (pv 1)) (SN.toE sn_int))) sa_nil))) sc_statement_at.nd)
      (sb_cons (ss_unp (is := [7, 1]) rfl (SN.toE (sn_cal ih_statement_at (hr.mono (Nat.le_refl _)) passX (sa_cons (se_var (pv 0)) (sa_cons (SN.toE (sn_add (se_var (pv 1)) (SN.toE sn_int))) (sa_cons (SN.toE (sn_add (se_var (pv 2)) (SN.toE sn_int))) sa_nil))))) (pg_tup rfl (pgs_cons (pg_name (i := 7) sc_statement_at.nd rfl (Or.inl rfl)) (pgs_cons (pg_name (i := 1) sc_statement_at.nd rfl (Or.inl rfl)) pgs_nil))))
      (sb_one (ss_ret (sn_tup (sa_cons (SN.toE (sn_tup (sa_cons (se_var (pv 3)) (sa_cons (se_var (pv 5)) (sa_cons (se_var (pv 7)) sa_nil))))) (sa_cons (se_var (pv 1)) sa_nil))))))) sb_nil)
    (sb_one (ss_raise e_NoNote rfl takesX)))))))))⟩
theorem ok_parts_at (D_parts_at : DefAt K mg "parts_at" s_parts_at) (D_statement_at : DefAt K mg "statement_at" s_statement_at) (c_number_at : Cal P w K mg base C "number_at" 2 2 m_number_at) (c_word_at : Cal P w K mg base C "word_at" 1 2 m_word_at) (c_sum_at : Cal P w K mg base C "sum_at" 3 2 m_sum_at) (c_name_at : Cal P w K mg base C "name_at" 2 2 m_name_at) (z_len : mg "len" = none) (z_tuple : mg "tuple" = none) (y_MOST_WITHIN : GlobT K mg "MOST_WITHIN" t_MOST_WITHIN) (e_NoNote : ExcAt K mg C "NoNote" 2) (n : Nat) : Cal P w K mg base C "parts_at" (3 + n) 3 (m_parts_at n) := (ok2_parts_at_statement_at D_parts_at D_statement_at c_number_at c_word_at c_sum_at c_name_at z_len z_tuple y_MOST_WITHIN e_NoNote n).1
theorem ok_statement_at (D_parts_at : DefAt K mg "parts_at" s_parts_at) (D_statement_at : DefAt K mg "statement_at" s_statement_at) (c_number_at : Cal P w K mg base C "number_at" 2 2 m_number_at) (c_word_at : Cal P w K mg base C "word_at" 1 2 m_word_at) (c_sum_at : Cal P w K mg base C "sum_at" 3 2 m_sum_at) (c_name_at : Cal P w K mg base C "name_at" 2 2 m_name_at) (z_len : mg "len" = none) (z_tuple : mg "tuple" = none) (y_MOST_WITHIN : GlobT K mg "MOST_WITHIN" t_MOST_WITHIN) (e_NoNote : ExcAt K mg C "NoNote" 2) (n : Nat) : Cal P w K mg base C "statement_at" (3 + n) 3 (m_statement_at n) := (ok2_parts_at_statement_at D_parts_at D_statement_at c_number_at c_word_at c_sum_at c_name_at z_len z_tuple y_MOST_WITHIN e_NoNote n).2
theorem ok_read (D_ : DefAt K mg "read" s_read) (c_statement_at : Cal P w K mg base C "statement_at" 103 3 (m_statement_at 100)) (z_len : mg "len" = none) (e_NoNote : ExcAt K mg C "NoNote" 2) : Cal P w K mg base C "read" 104 1 m_read :=
  cal_def (N := ["text", "words", "statement", "at"]) (ps := ["text"]) D_ sc_read (fun _ _ _ _ _ _ us hl => match us, hl with | [_], _ => rfl) rfl rfl (by decide) fun f cdv A outer s H E hr =>
    (sb_cons (ss_set (i := 1) (sn_split (se_var (pv 0)) (SN.toE sn_str)) sc_read.nd)
    (sb_cons (ss_unp (is := [2, 3]) rfl (SN.toE (sn_cal c_statement_at (hr.mono (by decide)) passX (sa_cons (se_var (pv 1)) (sa_cons (SN.toE sn_int) (sa_cons (SN.toE sn_int) sa_nil))))) (pg_tup rfl (pgs_cons (pg_name (i := 2) sc_read.nd rfl (Or.inl rfl)) (pgs_cons (pg_name (i := 3) sc_read.nd rfl (Or.inl rfl)) pgs_nil))))
    (sb_cons (ss_if (st_ne hr.units (se_var (pv 3)) (SN.toE (sn_len (sa_cons (se_var (pv 1)) sa_nil) z_len))) (sb_one (ss_raise e_NoNote rfl takesX)) sb_nil)
    (sb_one (ss_retN (pv 2))))))
theorem ok_law_cell_at (D_ : DefAt K mg "_law_cell_at" s_law_cell_at) (z_len : mg "len" = none) : Cal P w K mg base C "_law_cell_at" 1 2 m_law_cell_at :=
  cal_def (N := ["_law_script", "_law_k"]) (ps := ["_law_script", "_law_k"]) D_ sc_law_cell_at (fun _ _ _ _ _ _ us hl => match us, hl with | [_, _], _ => rfl) rfl rfl (by decide) fun f cdv A outer s H E hr =>
    (sb_cons (ss_if (st_lt (se_var (pv 1)) (SN.toE (sn_len (sa_cons (se_var (pv 0)) sa_nil) z_len))) (sb_one (ss_ret (sn_sub_ix (se_var (pv 0)) (se_var (pv 1))))) sb_nil)
    (sb_one (ss_ret sn_int)))
theorem ok_law_whole (D_ : DefAt K mg "_law_whole" s_law_whole) (z_isinstance : mg "isinstance" = none) (z_bool : mg "bool" = none) (z_int : mg "int" = none) : Cal P w K mg base C "_law_whole" 1 1 m_law_whole :=
  cal_def (N := ["_law_got"]) (ps := ["_law_got"]) D_ sc_law_whole (fun _ _ _ _ _ _ us hl => match us, hl with | [_], _ => rfl) rfl rfl (by decide) fun f cdv A outer s H E hr =>
    (sb_one (ss_ret (sn_and (SN.toE (sn_isi (se_var (pv 0)) z_isinstance z_int (by decide +kernel))) (sn_one (sn_not (SN.toE (sn_isi (se_var (pv 0)) z_isinstance z_bool (by decide +kernel))))))))
theorem ok_law_names_by (D_ : DefAt K mg "_law_names_by" s_law_names_by) (z_range : mg "range" = none) : Cal P w K mg base C "_law_names_by" 1 1 m_law_names_by :=
  cal_def (N := ["_law_cell", "_law_letters", "_law_size", "_law_word", "_law_number_here", "_law_k", "_law_spot", "_law_usual"]) (ps := ["_law_cell"]) D_ sc_law_names_by (fun _ _ _ _ _ _ us hl => match us, hl with | [_], _ => rfl) rfl rfl (by decide) fun f cdv A outer s H E hr =>
    (sb_cons (ss_set (i := 1) sn_str sc_law_names_by.nd)
    (sb_cons (ss_set (i := 2) (sn_add (SN.toE sn_int) (SN.toE (sn_mod (se_var (pv 0)) (SN.toE sn_int)))) sc_law_names_by.nd)
    (sb_cons (ss_set (i := 3) sn_str sc_law_names_by.nd)
    (sb_cons (ss_set (i := 4) (sn_var (pv 0)) sc_law_names_by.nd)
    (sb_cons (ss_forR1 passOwnX rfl z_range (sa_cons (se_var (pv 2)) sa_nil) (pg_name (i := 5) sc_law_names_by.nd rfl (by first | exact Or.inl rfl | exact Or.inr rfl)) (sb_cons (ss_set (i := 4) (sn_mod (SN.toE (sn_add (SN.toE (sn_mul (se_var (pv 4)) (SN.toE sn_int))) (SN.toE sn_int))) (SN.toE sn_int)) sc_law_names_by.nd)
      (sb_one (ss_set (i := 3) (sn_add (se_var (pv 3)) (SN.toE (sn_sub_ix (se_var (pv 1)) (SN.toE (sn_mod (SN.toE (sn_div (se_var (pv 4)) (SN.toE sn_int))) (SN.toE sn_int)))))) sc_law_names_by.nd))))
    (sb_cons (ss_if (st_eq hr.units (SN.toE (sn_mod (SN.toE (sn_div (se_var (pv 0)) (SN.toE sn_int))) (SN.toE sn_int))) (SN.toE sn_int)) (sb_one (ss_ret (sn_lcR1 (x := "_law_k") (j := 5) rfl sc_law_names_by.nd z_range (sa_cons (SN.toE sn_int) sa_nil) (blkOk_by (N := ["_law_cell", "_law_letters", "_law_size", "_law_word", "_law_number_here", "_law_k", "_law_spot", "_law_usual"]) (sc := defScope s_law_names_by) (own := [("_law_k", 5)]) (by decide +kernel)) (fun _ _ _ _ _ => pg_name (i := 5) sc_law_names_by.nd rfl (by first | exact Or.inl rfl | exact Or.inr rfl)) (fun _ _ _ _ _ => pts_can0) (fun _ _ _ _ _ => (sn_mul (SN.toE (sn_slice (se_var (pv 3)) so_none (so_some (SN.toE sn_int)))) (SN.toE (sn_add (SN.toE sn_int) (SN.toE (sn_mod (SN.toE (sn_add (se_var (pv 5)) (SN.toE (sn_div (se_var (pv 0)) (SN.toE sn_int))))) (SN.toE sn_int)))))))))) sb_nil)
    (sb_cons (ss_if (st_in (hu_of hr) (SN.toE (sn_mod (SN.toE (sn_div (se_var (pv 0)) (SN.toE sn_int))) (SN.toE sn_int))) (SN.toE (sn_lst (sa_cons (SN.toE sn_int) (sa_cons (SN.toE sn_int) (sa_cons (SN.toE sn_int) sa_nil)))))) (sb_cons (ss_set (i := 7) (sn_lst (sa_cons (SN.toE sn_str) (sa_cons (SN.toE sn_str) (sa_cons (SN.toE sn_str) (sa_cons (SN.toE sn_str) (sa_cons (SN.toE sn_str) (sa_cons (SN.toE sn_str) (sa_cons (SN.toE sn_str) (sa_cons (SN.toE sn_str) (sa_cons (SN.toE sn_str) (sa_cons (SN.toE sn_str) (sa_cons (SN.toE sn_str) (sa_cons (SN.toE sn_str) (sa_cons (SN.toE sn_str) (sa_cons (SN.toE sn_str) sa_nil))))))))))))))) sc_law_names_by.nd)
      (sb_cons (ss_set (i := 7) (sn_add (se_var (pv 7)) (SN.toE (sn_lst (sa_cons (SN.toE sn_str) (sa_cons (SN.toE sn_str) (sa_cons (SN.toE sn_str) (sa_cons (SN.toE sn_str) (sa_cons (SN.toE sn_str) (sa_cons (SN.toE sn_str) (sa_cons (SN.toE sn_str) (sa_cons (SN.toE sn_str) (sa_cons (SN.toE sn_str) (sa_cons (SN.toE sn_str) (sa_cons (SN.toE sn_str) sa_nil)))))))))))))) sc_law_names_by.nd)
      (sb_one (ss_ret (sn_lcR1 (x := "_law_k") (j := 5) rfl sc_law_names_by.nd z_range (sa_cons (SN.toE sn_int) sa_nil) (blkOk_by (N := ["_law_cell", "_law_letters", "_law_size", "_law_word", "_law_number_here", "_law_k", "_law_spot", "_law_usual"]) (sc := defScope s_law_names_by) (own := [("_law_k", 5)]) (by decide +kernel)) (fun _ _ _ _ _ => pg_name (i := 5) sc_law_names_by.nd rfl (by first | exact Or.inl rfl | exact Or.inr rfl)) (fun _ _ _ _ _ => pts_can0) (fun _ _ _ _ _ => (sn_sub_ix (se_var (pv 7)) (SN.toE (sn_mod (SN.toE (sn_add (SN.toE (sn_div (se_var (pv 0)) (SN.toE sn_int))) (SN.toE (sn_sub_ix (SN.toE (sn_lst (sa_cons (SN.toE sn_int) (sa_cons (SN.toE sn_int) (sa_cons (SN.toE sn_int) (sa_cons (SN.toE sn_int) sa_nil)))))) (se_var (pv 5)))))) (SN.toE sn_int)))))))))) sb_nil)
    (sb_cons (ss_set (i := 6) (sn_mod (SN.toE (sn_div (se_var (pv 0)) (SN.toE sn_int))) (se_var (pv 2))) sc_law_names_by.nd)
    (sb_one (ss_ret (sn_lcR1 (x := "_law_k") (j := 5) rfl sc_law_names_by.nd z_range (sa_cons (SN.toE sn_int) sa_nil) (blkOk_by (N := ["_law_cell", "_law_letters", "_law_size", "_law_word", "_law_number_here", "_law_k", "_law_spot", "_law_usual"]) (sc := defScope s_law_names_by) (own := [("_law_k", 5)]) (by decide +kernel)) (fun _ _ _ _ _ => pg_name (i := 5) sc_law_names_by.nd rfl (by first | exact Or.inl rfl | exact Or.inr rfl)) (fun _ _ _ _ _ => pts_can0) (fun _ _ _ _ _ => (sn_add (SN.toE (sn_add (SN.toE (sn_slice (se_var (pv 3)) so_none (so_some (se_var (pv 6))))) (SN.toE (sn_sub_ix (se_var (pv 1)) (SN.toE (sn_mod (SN.toE (sn_add (SN.toE (sn_div (se_var (pv 0)) (SN.toE sn_int))) (SN.toE (sn_mul (SN.toE sn_int) (se_var (pv 5)))))) (SN.toE sn_int))))))) (SN.toE (sn_slice (se_var (pv 3)) (so_some (SN.toE (sn_add (se_var (pv 6)) (SN.toE sn_int)))) so_none)))))))))))))))
theorem ok_law_sum_by (D_ : DefAt K mg "_law_sum_by" s_law_sum_by) (z_sorted : mg "sorted" = none) (z_tuple : mg "tuple" = none) : Cal P w K mg base C "_law_sum_by" 1 3 m_law_sum_by :=
  cal_def (N := ["_law_cell", "_law_names", "_law_wide", "_law_number_here", "_law_parts", "_law_name", "_law_by"]) (ps := ["_law_cell", "_law_names", "_law_wide"]) D_ sc_law_sum_by (fun _ _ _ _ _ _ us hl => match us, hl with | [_, _, _], _ => rfl) rfl rfl (by decide) fun f cdv A outer s H E hr =>
    (sb_cons (ss_set (i := 3) (sn_var (pv 0)) sc_law_sum_by.nd)
    (sb_cons (ss_set (i := 4) (sn_lst sa_nil) sc_law_sum_by.nd)
    (sb_cons (ss_forL passOwnX rfl (sn_sorted rfl (sa_cons (se_var (pv 1)) sa_nil) z_sorted) (pg_name (i := 5) sc_law_sum_by.nd rfl (by first | exact Or.inl rfl | exact Or.inr rfl)) (sb_cons (ss_set (i := 3) (sn_mod (SN.toE (sn_add (SN.toE (sn_mul (se_var (pv 3)) (SN.toE sn_int))) (SN.toE sn_int))) (SN.toE sn_int)) sc_law_sum_by.nd)
      (sb_cons (ss_set (i := 6) (sn_sub (SN.toE (sn_mod (SN.toE (sn_div (se_var (pv 3)) (SN.toE sn_int))) (SN.toE (sn_add (SN.toE (sn_mul (SN.toE sn_int) (se_var (pv 2)))) (SN.toE sn_int))))) (se_var (pv 2))) sc_law_sum_by.nd)
      (sb_one (ss_if (st_ne hr.units (se_var (pv 6)) (SN.toE sn_int)) (sb_one (ss_app (pv 4) (SN.toE (sn_tup (sa_cons (se_var (pv 5)) (sa_cons (se_var (pv 6)) sa_nil)))))) sb_nil)))))
    (sb_cons (ss_set (i := 3) (sn_mod (SN.toE (sn_add (SN.toE (sn_mul (se_var (pv 3)) (SN.toE sn_int))) (SN.toE sn_int))) (SN.toE sn_int)) sc_law_sum_by.nd)
    (sb_one (ss_ret (sn_tup (sa_cons (SN.toE (sn_sub (SN.toE (sn_mod (SN.toE (sn_div (se_var (pv 3)) (SN.toE sn_int))) (SN.toE sn_int))) (SN.toE sn_int))) (sa_cons (SN.toE (sn_tuple (sa_cons (se_var (pv 4)) sa_nil) z_tuple)) sa_nil)))))))))
theorem ok_law_end_by (D_ : DefAt K mg "_law_end_by" s_law_end_by) (c_law_sum_by : Cal P w K mg base C "_law_sum_by" 1 3 m_law_sum_by) : Cal P w K mg base C "_law_end_by" 2 4 m_law_end_by :=
  cal_def (N := ["_law_cell", "_law_names", "_law_wide", "_law_most", "_law_one"]) (ps := ["_law_cell", "_law_names", "_law_wide", "_law_most"]) D_ sc_law_end_by (fun _ _ _ _ _ _ us hl => match us, hl with | [_, _, _, _], _ => rfl) rfl rfl (by decide) fun f cdv A outer s H E hr =>
    (sb_cons (ss_set (i := 4) (sn_cal c_law_sum_by (hr.mono (by decide)) passX (sa_cons (SN.toE (sn_div (se_var (pv 0)) (SN.toE sn_int))) (sa_cons (se_var (pv 1)) (sa_cons (se_var (pv 2)) sa_nil)))) sc_law_end_by.nd)
    (sb_cons (ss_if (st_eq hr.units (SN.toE (sn_mod (se_var (pv 0)) (SN.toE sn_int))) (SN.toE sn_int)) (sb_one (ss_ret (sn_tup (sa_cons (SN.toE sn_str) (sa_cons (se_var (pv 4)) sa_nil))))) sb_nil)
    (sb_cons (ss_if (st_eq hr.units (SN.toE (sn_mod (se_var (pv 0)) (SN.toE sn_int))) (SN.toE sn_int)) (sb_one (ss_ret (sn_tup (sa_cons (SN.toE sn_str) (sa_cons (SN.toE (sn_add (SN.toE sn_int) (SN.toE (sn_mod (SN.toE (sn_div (se_var (pv 0)) (SN.toE sn_int))) (se_var (pv 3)))))) (sa_cons (se_var (pv 4)) sa_nil)))))) sb_nil)
    (sb_one (ss_ret (sn_tup (sa_cons (SN.toE sn_str) (sa_cons (se_var (pv 4)) sa_nil))))))))
theorem ok_law_plain_by (D_ : DefAt K mg "_law_plain_by" s_law_plain_by) (c_law_cell_at : Cal P w K mg base C "_law_cell_at" 1 2 m_law_cell_at) (c_law_end_by : Cal P w K mg base C "_law_end_by" 2 4 m_law_end_by) (z_range : mg "range" = none) : Cal P w K mg base C "_law_plain_by" 3 6 m_law_plain_by :=
  cal_def (N := ["_law_script", "_law_first", "_law_count", "_law_names", "_law_wide", "_law_most", "_law_begin", "_law_made_of", "_law_k", "_law_cell", "_law_end", "_law_way"]) (ps := ["_law_script", "_law_first", "_law_count", "_law_names", "_law_wide", "_law_most"]) D_ sc_law_plain_by (fun _ _ _ _ _ _ us hl => match us, hl with | [_, _, _, _, _, _], _ => rfl) rfl rfl (by decide) fun f cdv A outer s H E hr =>
    (sb_cons (ss_set (i := 6) (sn_cal c_law_cell_at (hr.mono (by decide)) passX (sa_cons (se_var (pv 0)) (sa_cons (se_var (pv 1)) sa_nil))) sc_law_plain_by.nd)
    (sb_cons (ss_if (st_eq hr.units (SN.toE (sn_mod (se_var (pv 6)) (SN.toE sn_int))) (SN.toE sn_int)) (sb_one (ss_ret (sn_tup (sa_cons (SN.toE sn_str) (sa_cons (SN.toE (sn_tup sa_nil)) sa_nil))))) sb_nil)
    (sb_cons (ss_if (st_eq hr.units (SN.toE (sn_mod (se_var (pv 6)) (SN.toE sn_int))) (SN.toE sn_int)) (sb_one (ss_set (i := 3) (sn_lst sa_nil) sc_law_plain_by.nd)) sb_nil)
    (sb_cons (ss_set (i := 7) (sn_cal c_law_end_by (hr.mono (by decide)) passX (sa_cons (se_var (pv 6)) (sa_cons (se_var (pv 3)) (sa_cons (se_var (pv 4)) (sa_cons (se_var (pv 5)) sa_nil))))) sc_law_plain_by.nd)
    (sb_cons (ss_forR2 passOwnX rfl z_range (sa_cons (SN.toE sn_int) (sa_cons (se_var (pv 2)) sa_nil)) (pg_name (i := 8) sc_law_plain_by.nd rfl (by first | exact Or.inl rfl | exact Or.inr rfl)) (sb_cons (ss_set (i := 9) (sn_add (SN.toE (sn_cal c_law_cell_at (hr.mono (by decide)) passX (sa_cons (se_var (pv 0)) (sa_cons (SN.toE (sn_add (se_var (pv 1)) (se_var (pv 8)))) sa_nil)))) (SN.toE (sn_mul (SN.toE sn_int) (se_var (pv 8))))) sc_law_plain_by.nd)
      (sb_cons (ss_set (i := 10) (sn_cal c_law_end_by (hr.mono (by decide)) passX (sa_cons (SN.toE (sn_div (se_var (pv 9)) (SN.toE sn_int))) (sa_cons (se_var (pv 3)) (sa_cons (se_var (pv 4)) (sa_cons (se_var (pv 5)) sa_nil))))) sc_law_plain_by.nd)
      (sb_cons (ss_set (i := 11) (sn_mod (se_var (pv 9)) (SN.toE sn_int)) sc_law_plain_by.nd)
      (sb_cons (ss_if (st_lt (se_var (pv 11)) (SN.toE sn_int)) (sb_one (ss_set (i := 7) (sn_tup (sa_cons (SN.toE (sn_sub_ix (SN.toE (sn_lst (sa_cons (SN.toE sn_str) (sa_cons (SN.toE sn_str) sa_nil)))) (se_var (pv 11)))) (sa_cons (SN.toE (sn_tup (sa_cons (se_var (pv 7)) (sa_cons (se_var (pv 10)) sa_nil)))) sa_nil))) sc_law_plain_by.nd)) sb_nil)
      (sb_cons (ss_if (st_eq hr.units (se_var (pv 11)) (SN.toE sn_int)) (sb_one (ss_set (i := 7) (sn_tup (sa_cons (SN.toE sn_str) (sa_cons (SN.toE (sn_tup (sa_cons (SN.toE (sn_tup (sa_cons (SN.toE sn_str) (sa_cons (se_var (pv 7)) sa_nil)))) (sa_cons (se_var (pv 10)) sa_nil)))) sa_nil))) sc_law_plain_by.nd)) sb_nil)
      (sb_cons (ss_if (st_eq hr.units (se_var (pv 11)) (SN.toE sn_int)) (sb_one (ss_set (i := 7) (sn_tup (sa_cons (SN.toE sn_str) (sa_cons (SN.toE (sn_tup (sa_cons (SN.toE sn_str) (sa_cons (SN.toE (sn_tup (sa_cons (se_var (pv 10)) (sa_cons (se_var (pv 7)) (sa_cons (SN.toE (sn_tup (sa_cons (SN.toE sn_str) (sa_cons (SN.toE (sn_tup sa_nil)) sa_nil)))) sa_nil))))) sa_nil)))) sa_nil))) sc_law_plain_by.nd)) sb_nil)
      (sb_cons (ss_if (st_eq hr.units (se_var (pv 11)) (SN.toE sn_int)) (sb_one (ss_set (i := 7) (sn_tup (sa_cons (SN.toE sn_str) (sa_cons (SN.toE (sn_tup (sa_cons (SN.toE (sn_tup (sa_cons (SN.toE sn_str) (sa_cons (SN.toE (sn_tup (sa_cons (se_var (pv 10)) (sa_cons (se_var (pv 7)) sa_nil)))) sa_nil)))) (sa_cons (SN.toE (sn_tup (sa_cons (SN.toE sn_str) (sa_cons (se_var (pv 10)) sa_nil)))) sa_nil)))) sa_nil))) sc_law_plain_by.nd)) sb_nil)
      (sb_cons (ss_if (st_eq hr.units (se_var (pv 11)) (SN.toE sn_int)) (sb_one (ss_set (i := 7) (sn_tup (sa_cons (SN.toE sn_str) (sa_cons (SN.toE (sn_tup (sa_cons (se_var (pv 10)) (sa_cons (SN.toE (sn_tup (sa_cons (SN.toE sn_str) (sa_cons (SN.toE (sn_tup sa_nil)) sa_nil)))) (sa_cons (se_var (pv 7)) sa_nil))))) sa_nil))) sc_law_plain_by.nd)) sb_nil)
      (sb_cons (ss_if (st_eq hr.units (se_var (pv 11)) (SN.toE sn_int)) (sb_one (ss_set (i := 7) (sn_tup (sa_cons (SN.toE sn_str) (sa_cons (SN.toE (sn_tup (sa_cons (SN.toE (sn_tup (sa_cons (SN.toE sn_str) (sa_cons (SN.toE (sn_tup (sa_cons (SN.toE sn_str) (sa_cons (se_var (pv 7)) sa_nil)))) sa_nil)))) (sa_cons (SN.toE (sn_tup (sa_cons (SN.toE sn_str) (sa_cons (se_var (pv 10)) sa_nil)))) sa_nil)))) sa_nil))) sc_law_plain_by.nd)) sb_nil)
      (sb_cons (ss_if (st_eq hr.units (se_var (pv 11)) (SN.toE sn_int)) (sb_one (ss_set (i := 7) (sn_tup (sa_cons (SN.toE sn_str) (sa_cons (SN.toE (sn_tup (sa_cons (SN.toE (sn_tup (sa_cons (SN.toE sn_str) (sa_cons (SN.toE (sn_tup (sa_cons (se_var (pv 7)) sa_nil))) sa_nil)))) (sa_cons (SN.toE (sn_tup (sa_cons (SN.toE sn_str) (sa_cons (SN.toE (sn_tup (sa_cons (SN.toE (sn_tup (sa_cons (SN.toE sn_str) (sa_cons (SN.toE (sn_tup (sa_cons (se_var (pv 10)) sa_nil))) sa_nil)))) sa_nil))) sa_nil)))) sa_nil)))) sa_nil))) sc_law_plain_by.nd)) sb_nil)
      (sb_one (ss_if (st_eq hr.units (se_var (pv 11)) (SN.toE sn_int)) (sb_one (ss_set (i := 7) (sn_tup (sa_cons (SN.toE (sn_sub_ix (SN.toE (sn_lst (sa_cons (SN.toE sn_str) (sa_cons (SN.toE sn_str) sa_nil)))) (SN.toE (sn_mod (SN.toE (sn_div (se_var (pv 9)) (SN.toE sn_int))) (SN.toE sn_int))))) (sa_cons (SN.toE (sn_add (SN.toE (sn_tup (sa_cons (se_var (pv 10)) (sa_cons (se_var (pv 10)) (sa_cons (se_var (pv 7)) sa_nil))))) (SN.toE (sn_mul (SN.toE (sn_tup (sa_cons (se_var (pv 10)) sa_nil))) (SN.toE (sn_add (SN.toE sn_int) (SN.toE (sn_mod (SN.toE (sn_div (se_var (pv 9)) (SN.toE sn_int))) (SN.toE sn_int))))))))) sa_nil))) sc_law_plain_by.nd)) sb_nil)))))))))))))
    (sb_one (ss_retN (pv 7))))))))
theorem ok_law_word_of (D_ : DefAt K mg "_law_word_of" s_law_word_of) (W : WrdFacts K mg C) (z_isinstance : mg "isinstance" = none) (z_ValueError : mg "ValueError" = none) : CalW P w K mg base C "_law_word_of" 1 :=
  cal_word (N := ["_law_e", "_law_words_here"]) D_ sc_law_word_of rfl (fun _ _ _ _ _ _ us hl => match us, hl with | [_], _ => rfl) fun f cdv A outer s H E p c hc hf hz =>
    (sb_cons (ss_set (i := 1) (sn_lst sa_nil) sc_law_word_of.nd)
    (sb_cons (ss_if (st_val (SN.toE (sn_isE (oe := p.2) (List.mem_singleton.mpr rfl) (W.ex c hc) hz hf (pv 0) (pe_glob (v := .ref (C 0)) rfl W.g0 rfl) (fun u r => r) (W.io c 0 hc (by decide)) z_isinstance))) (sb_one (ss_app (pv 1) (SN.toE sn_str))) sb_nil)
    (sb_cons (ss_if (st_val (SN.toE (sn_isE (oe := p.2) (List.mem_singleton.mpr rfl) (W.ex c hc) hz hf (pv 0) (pe_glob (v := .ref (C 1)) rfl W.g1 rfl) (fun u r => r) (W.io c 1 hc (by decide)) z_isinstance))) (sb_one (ss_app (pv 1) (SN.toE sn_str))) sb_nil)
    (sb_cons (ss_if (st_val (SN.toE (sn_isE (oe := p.2) (List.mem_singleton.mpr rfl) (W.ex c hc) hz hf (pv 0) (pe_glob (v := .ref (C 2)) rfl W.g2 rfl) (fun u r => r) (W.io c 2 hc (by decide)) z_isinstance))) (sb_one (ss_app (pv 1) (SN.toE sn_str))) sb_nil)
    (sb_cons (ss_if (st_not (st_val (SN.toE (sn_isE (oe := p.2) (List.mem_singleton.mpr rfl) (W.ex c hc) hz hf (pv 0) (pe_bltn (v := .ty "ValueError") rfl z_ValueError (by decide +kernel) rfl (by decide)) (fun u r => r) (W.ve c hc) z_isinstance)))) (sb_one (ss_app (pv 1) (SN.toE sn_str))) sb_nil)
    (sb_one (ss_ret (sn_join (se_var (pv 1))))))))))
theorem ok_law_big_by (D_ : DefAt K mg "_law_big_by" s_law_big_by) (z_range : mg "range" = none) : Cal P w K mg base C "_law_big_by" 1 1 m_law_big_by :=
  cal_def (N := ["_law_cell", "_law_number_here", "_law_mixed", "_law_k"]) (ps := ["_law_cell"]) D_ sc_law_big_by (fun _ _ _ _ _ _ us hl => match us, hl with | [_], _ => rfl) rfl rfl (by decide) fun f cdv A outer s H E hr =>
    (sb_cons (ss_if (st_gt (SN.toE (sn_mod (se_var (pv 0)) (SN.toE sn_int))) (SN.toE sn_int)) (sb_one (ss_ret (sn_sub (SN.toE (sn_mod (SN.toE (sn_div (se_var (pv 0)) (SN.toE sn_int))) (SN.toE sn_int))) (SN.toE sn_int)))) sb_nil)
    (sb_cons (ss_set (i := 1) sn_int sc_law_big_by.nd)
    (sb_cons (ss_set (i := 2) (sn_var (pv 0)) sc_law_big_by.nd)
    (sb_cons (ss_forR1 passOwnX rfl z_range (sa_cons (SN.toE (sn_add (SN.toE sn_int) (SN.toE (sn_mod (SN.toE (sn_div (se_var (pv 0)) (SN.toE sn_int))) (SN.toE sn_int))))) sa_nil) (pg_name (i := 3) sc_law_big_by.nd rfl (by first | exact Or.inl rfl | exact Or.inr rfl)) (sb_cons (ss_set (i := 2) (sn_mod (SN.toE (sn_add (SN.toE (sn_mul (se_var (pv 2)) (SN.toE sn_int))) (SN.toE sn_int))) (SN.toE sn_int)) sc_law_big_by.nd)
      (sb_one (ss_set (i := 1) (sn_add (SN.toE (sn_mul (se_var (pv 1)) (SN.toE sn_int))) (SN.toE (sn_mod (SN.toE (sn_div (se_var (pv 2)) (SN.toE sn_int))) (SN.toE sn_int)))) sc_law_big_by.nd))))
    (sb_one (ss_ret (sn_mul (SN.toE (sn_sub_ix (SN.toE (sn_lst (sa_cons (SN.toE sn_int) (sa_cons (SN.toE (sn_neg (SN.toE sn_int))) sa_nil)))) (SN.toE (sn_mod (SN.toE (sn_div (se_var (pv 0)) (SN.toE sn_int))) (SN.toE sn_int))))) (se_var (pv 1)))))))))
theorem ok_law_alike (D_ : DefAt K mg "_law_alike" s_law_alike) (c_law_whole : Cal P w K mg base C "_law_whole" 1 1 m_law_whole) (z_isinstance : mg "isinstance" = none) (z_str : mg "str" = none) (z_int : mg "int" = none) (z_tuple : mg "tuple" = none) (z_list : mg "list" = none) (z_len : mg "len" = none) (z_range : mg "range" = none) : ∀ n : Nat, Cal P w K mg base C "_law_alike" (1 + n) 2 (m_law_alike n)
  | 0 => cal_none (ps := ["_law_got", "_law_due"]) D_ (fun _ _ _ _ _ _ us hl => match us, hl with | [_, _], _ => rfl) rfl
  | n + 1 => by
    have ih := ok_law_alike D_ c_law_whole z_isinstance z_str z_int z_tuple z_list z_len z_range n
    exact cal_def (N := ["_law_got", "_law_due", "_law_k"]) (ps := ["_law_got", "_law_due"]) D_ sc_law_alike (fun _ _ _ _ _ _ us hl => match us, hl with | [_, _], _ => rfl) rfl rfl (by decide) fun f cdv A outer s H E hr =>
    (sb_cons (ss_if (st_is (se_var (pv 1)) (SN.toE sn_non)) (sb_one (ss_ret (sn_is (se_var (pv 0)) (SN.toE sn_non)))) sb_nil)
    (sb_cons (ss_if (st_is (se_var (pv 1)) (SN.toE sn_bl)) (sb_one (ss_ret (sn_is (se_var (pv 0)) (SN.toE sn_bl)))) sb_nil)
    (sb_cons (ss_if (st_val (SN.toE (sn_isi (se_var (pv 1)) z_isinstance z_str (by decide +kernel)))) (sb_one (ss_ret (sn_and (SN.toE (sn_isi (se_var (pv 0)) z_isinstance z_str (by decide +kernel))) (sn_one (sn_eq hr.units (se_var (pv 0)) (se_var (pv 1))))))) sb_nil)
    (sb_cons (ss_if (st_val (SN.toE (sn_isi (se_var (pv 1)) z_isinstance z_int (by decide +kernel)))) (sb_one (ss_ret (sn_and (SN.toE (sn_cal c_law_whole (hr.mono (Nat.le_trans (by decide) (Nat.le_add_right _ _))) passX (sa_cons (se_var (pv 0)) sa_nil))) (sn_one (sn_eq hr.units (se_var (pv 0)) (se_var (pv 1))))))) sb_nil)
    (sb_cons (ss_if (SW.st (sw_and (st_val (SN.toE (sn_isi (se_var (pv 1)) z_isinstance z_tuple (by decide +kernel)))) (sw_and1 (st_not (st_val (SN.toE (sn_isi (se_var (pv 0)) z_isinstance z_tuple (by decide +kernel)))))))) (sb_one (ss_ret sn_bl)) sb_nil)
    (sb_cons (ss_if (SW.st (sw_and (st_val (SN.toE (sn_isi (se_var (pv 1)) z_isinstance z_list (by decide +kernel)))) (sw_and1 (st_not (st_val (SN.toE (sn_isi (se_var (pv 0)) z_isinstance z_list (by decide +kernel)))))))) (sb_one (ss_ret sn_bl)) sb_nil)
    (sb_cons (ss_if (st_ne hr.units (SN.toE (sn_len (sa_cons (se_var (pv 0)) sa_nil) z_len)) (SN.toE (sn_len (sa_cons (se_var (pv 1)) sa_nil) z_len))) (sb_one (ss_ret sn_bl)) sb_nil)
    (sb_cons (ss_forR1 passOwnX rfl z_range (sa_cons (SN.toE (sn_len (sa_cons (se_var (pv 1)) sa_nil) z_len)) sa_nil) (pg_name (i := 2) sc_law_alike.nd rfl (by first | exact Or.inl rfl | exact Or.inr rfl)) (sb_one (ss_if (st_not (st_val (SN.toE (sn_cal ih (hr.mono (Nat.le_refl _)) passX (sa_cons (SN.toE (sn_sub_ix (se_var (pv 0)) (se_var (pv 2)))) (sa_cons (SN.toE (sn_sub_ix (se_var (pv 1)) (se_var (pv 2)))) sa_nil)))))) (sb_one (ss_ret sn_bl)) sb_nil)))
    (sb_one (ss_ret sn_bl))))))))))
theorem ok_law_bound_by (D_ : DefAt K mg "_law_bound_by" s_law_bound_by) : Cal P w K mg base C "_law_bound_by" 1 3 m_law_bound_by :=
  cal_def (N := ["_law_cell", "_law_statement", "_law_names", "_law_inner", "_law_way"]) (ps := ["_law_cell", "_law_statement", "_law_names"]) D_ sc_law_bound_by (fun _ _ _ _ _ _ us hl => match us, hl with | [_, _, _], _ => rfl) rfl rfl (by decide) fun f cdv A outer s H E hr =>
    (sb_cons (ss_set (i := 3) (sn_tup (sa_cons (SN.toE (sn_sub_ix (SN.toE (sn_lst (sa_cons (SN.toE sn_str) (sa_cons (SN.toE sn_str) sa_nil)))) (SN.toE (sn_mod (se_var (pv 0)) (SN.toE sn_int))))) (sa_cons (SN.toE (sn_sub_ix (se_var (pv 2)) (SN.toE (sn_mod (SN.toE (sn_div (se_var (pv 0)) (SN.toE sn_int))) (SN.toE sn_int))))) (sa_cons (se_var (pv 1)) sa_nil)))) sc_law_bound_by.nd)
    (sb_cons (ss_set (i := 4) (sn_mod (SN.toE (sn_div (se_var (pv 0)) (SN.toE sn_int))) (SN.toE sn_int)) sc_law_bound_by.nd)
    (sb_cons (ss_if (st_eq hr.units (se_var (pv 4)) (SN.toE sn_int)) (sb_one (ss_retN (pv 3))) sb_nil)
    (sb_cons (ss_if (st_eq hr.units (se_var (pv 4)) (SN.toE sn_int)) (sb_one (ss_ret (sn_tup (sa_cons (SN.toE sn_str) (sa_cons (se_var (pv 3)) sa_nil))))) sb_nil)
    (sb_cons (ss_if (st_eq hr.units (se_var (pv 4)) (SN.toE sn_int)) (sb_one (ss_ret (sn_tup (sa_cons (SN.toE sn_str) (sa_cons (SN.toE (sn_tup (sa_cons (se_var (pv 1)) (sa_cons (se_var (pv 3)) sa_nil)))) sa_nil))))) sb_nil)
    (sb_one (ss_ret (sn_tup (sa_cons (SN.toE sn_str) (sa_cons (SN.toE (sn_tup (sa_cons (SN.toE (sn_tup (sa_cons (SN.toE sn_str) (sa_cons (SN.toE (sn_tup sa_nil)) sa_nil)))) (sa_cons (SN.toE (sn_tup (sa_cons (SN.toE sn_str) (sa_cons (SN.toE (sn_tup (sa_cons (SN.toE sn_str) (sa_cons (SN.toE (sn_tup (sa_cons (se_var (pv 3)) (sa_cons (se_var (pv 1)) sa_nil)))) sa_nil)))) sa_nil)))) sa_nil)))) sa_nil))))))))))
theorem ok_law_sum_words (D_ : DefAt K mg "_law_sum_words" s_law_sum_words) (z_str : mg "str" = none) : Cal P w K mg base C "_law_sum_words" 1 1 m_law_sum_words :=
  cal_def (N := ["_law_one", "_law_words_here", "_law_pair"]) (ps := ["_law_one"]) D_ sc_law_sum_words (fun _ _ _ _ _ _ us hl => match us, hl with | [_], _ => rfl) rfl rfl (by decide) fun f cdv A outer s H E hr =>
    (sb_cons (ss_set (i := 1) (sn_lst (sa_cons (SN.toE (sn_strI (sa_cons (SN.toE (sn_sub_ix (se_var (pv 0)) (SN.toE sn_int))) sa_nil) z_str)) sa_nil)) sc_law_sum_words.nd)
    (sb_cons (ss_forT passOwnX rfl (SN.toE (sn_sub_ix (se_var (pv 0)) (SN.toE sn_int))) (pg_name (i := 2) sc_law_sum_words.nd rfl (by first | exact Or.inl rfl | exact Or.inr rfl)) (sb_one (ss_set (i := 1) (sn_add (se_var (pv 1)) (SN.toE (sn_lst (sa_cons (SN.toE (sn_strI (sa_cons (SN.toE (sn_sub_ix (se_var (pv 2)) (SN.toE sn_int))) sa_nil) z_str)) (sa_cons (SN.toE (sn_sub_ix (se_var (pv 2)) (SN.toE sn_int))) sa_nil))))) sc_law_sum_words.nd)))
    (sb_one (ss_ret (sn_add (se_var (pv 1)) (SN.toE (sn_lst (sa_cons (SN.toE sn_str) sa_nil))))))))
theorem ok_law_words (D_ : DefAt K mg "_law_words" s_law_words) (c_law_sum_words : Cal P w K mg base C "_law_sum_words" 1 1 m_law_sum_words) (z_str : mg "str" = none) (z_len : mg "len" = none) : ∀ n : Nat, Cal P w K mg base C "_law_words" (1 + n) 1 (m_law_words n)
  | 0 => cal_none (ps := ["_law_statement"]) D_ (fun _ _ _ _ _ _ us hl => match us, hl with | [_], _ => rfl) rfl
  | n + 1 => by
    have ih := ok_law_words D_ c_law_sum_words z_str z_len n
    exact cal_def (N := ["_law_statement", "_law_kind", "_law_words_here", "_law_part"]) (ps := ["_law_statement"]) D_ sc_law_words (fun _ _ _ _ _ _ us hl => match us, hl with | [_], _ => rfl) rfl rfl (by decide) fun f cdv A outer s H E hr =>
    (sb_cons (ss_set (i := 1) (sn_sub_ix (se_var (pv 0)) (SN.toE sn_int)) sc_law_words.nd)
    (sb_cons (ss_if (st_eq hr.units (se_var (pv 1)) (SN.toE sn_str)) (sb_one (ss_ret (sn_add (SN.toE (sn_lst (sa_cons (SN.toE sn_str) sa_nil))) (SN.toE (sn_cal ih (hr.mono (Nat.le_refl _)) passX (sa_cons (SN.toE (sn_sub_ix (se_var (pv 0)) (SN.toE sn_int))) sa_nil)))))) sb_nil)
    (sb_cons (ss_if (SW.st (sw_or (st_eq hr.units (se_var (pv 1)) (SN.toE sn_str)) (sw_or1 (st_eq hr.units (se_var (pv 1)) (SN.toE sn_str))))) (sb_one (ss_ret (sn_add (SN.toE (sn_lst (sa_cons (se_var (pv 1)) (sa_cons (SN.toE (sn_sub_ix (se_var (pv 0)) (SN.toE sn_int))) sa_nil)))) (SN.toE (sn_cal ih (hr.mono (Nat.le_refl _)) passX (sa_cons (SN.toE (sn_sub_ix (se_var (pv 0)) (SN.toE sn_int))) sa_nil)))))) sb_nil)
    (sb_cons (ss_if (SW.st (sw_or (st_eq hr.units (se_var (pv 1)) (SN.toE sn_str)) (sw_or1 (st_eq hr.units (se_var (pv 1)) (SN.toE sn_str))))) (sb_cons (ss_set (i := 2) (sn_lst (sa_cons (se_var (pv 1)) (sa_cons (SN.toE (sn_strI (sa_cons (SN.toE (sn_len (sa_cons (SN.toE (sn_sub_ix (se_var (pv 0)) (SN.toE sn_int))) sa_nil) z_len)) sa_nil) z_str)) sa_nil))) sc_law_words.nd)
      (sb_cons (ss_forT passOwnX rfl (SN.toE (sn_sub_ix (se_var (pv 0)) (SN.toE sn_int))) (pg_name (i := 3) sc_law_words.nd rfl (by first | exact Or.inl rfl | exact Or.inr rfl)) (sb_one (ss_set (i := 2) (sn_add (se_var (pv 2)) (SN.toE (sn_cal ih (hr.mono (Nat.le_refl _)) passX (sa_cons (se_var (pv 3)) sa_nil)))) sc_law_words.nd)))
      (sb_one (ss_retN (pv 2))))) sb_nil)
    (sb_cons (ss_if (st_eq hr.units (se_var (pv 1)) (SN.toE sn_str)) (sb_one (ss_ret (sn_add (SN.toE (sn_lst (sa_cons (SN.toE sn_str) (sa_cons (SN.toE (sn_strI (sa_cons (SN.toE (sn_sub_ix (se_var (pv 0)) (SN.toE sn_int))) sa_nil) z_str)) sa_nil)))) (SN.toE (sn_cal c_law_sum_words (hr.mono (Nat.le_trans (by decide) (Nat.le_add_right _ _))) passX (sa_cons (SN.toE (sn_sub_ix (se_var (pv 0)) (SN.toE sn_int))) sa_nil)))))) sb_nil)
    (sb_one (ss_ret (sn_add (SN.toE (sn_lst (sa_cons (se_var (pv 1)) sa_nil))) (SN.toE (sn_cal c_law_sum_words (hr.mono (Nat.le_trans (by decide) (Nat.le_add_right _ _))) passX (sa_cons (SN.toE (sn_sub_ix (se_var (pv 0)) (SN.toE sn_int))) sa_nil)))))))))))
theorem ok_law_within (D_ : DefAt K mg "_law_within" s_law_within) (z_max : mg "max" = none) : ∀ n : Nat, Cal P w K mg base C "_law_within" (0 + n) 1 (m_law_within n)
  | 0 => cal_none (ps := ["_law_statement"]) D_ (fun _ _ _ _ _ _ us hl => match us, hl with | [_], _ => rfl) rfl
  | n + 1 => by
    have ih := ok_law_within D_ z_max n
    exact cal_def (N := ["_law_statement", "_law_kind", "_law_part"]) (ps := ["_law_statement"]) D_ sc_law_within (fun _ _ _ _ _ _ us hl => match us, hl with | [_], _ => rfl) rfl rfl (by decide) fun f cdv A outer s H E hr =>
    (sb_cons (ss_set (i := 1) (sn_sub_ix (se_var (pv 0)) (SN.toE sn_int)) sc_law_within.nd)
    (sb_cons (ss_if (st_eq hr.units (se_var (pv 1)) (SN.toE sn_str)) (sb_one (ss_ret (sn_add (SN.toE sn_int) (SN.toE (sn_cal ih (hr.mono (Nat.le_refl _)) passX (sa_cons (SN.toE (sn_sub_ix (se_var (pv 0)) (SN.toE sn_int))) sa_nil)))))) sb_nil)
    (sb_cons (ss_if (SW.st (sw_or (st_eq hr.units (se_var (pv 1)) (SN.toE sn_str)) (sw_or1 (st_eq hr.units (se_var (pv 1)) (SN.toE sn_str))))) (sb_one (ss_ret (sn_add (SN.toE sn_int) (SN.toE (sn_cal ih (hr.mono (Nat.le_refl _)) passX (sa_cons (SN.toE (sn_sub_ix (se_var (pv 0)) (SN.toE sn_int))) sa_nil)))))) sb_nil)
    (sb_cons (ss_if (SW.st (sw_or (st_eq hr.units (se_var (pv 1)) (SN.toE sn_str)) (sw_or1 (st_eq hr.units (se_var (pv 1)) (SN.toE sn_str))))) (sb_one (ss_ret (sn_add (SN.toE sn_int) (SN.toE (sn_mdef (cr_maxDef rfl hr.units) (SN.toE (sn_lcT (x := "_law_part") (j := 2) rfl sc_law_within.nd (SN.toE (sn_sub_ix (se_var (pv 0)) (SN.toE sn_int))) (blkOk_by (N := ["_law_statement", "_law_kind", "_law_part"]) (sc := defScope s_law_within) (own := [("_law_part", 2)]) (by decide +kernel)) (fun _ _ _ _ _ => pg_name (i := 2) sc_law_within.nd rfl (by first | exact Or.inl rfl | exact Or.inr rfl)) (fun _ _ _ _ _ => pts_can0) (fun _ _ _ _ _ => (sn_cal ih (hr.mono (Nat.le_refl _)) passL (sa_cons (se_var (pv 2)) sa_nil))))) z_max (by decide +kernel)))))) sb_nil)
    (sb_one (ss_ret sn_int))))))
theorem ok_law_number (D_ : DefAt K mg "_law_number" s_law_number) (z_int : mg "int" = none) (z_len : mg "len" = none) : Cal P w K mg base C "_law_number" 1 1 m_law_number :=
  cal_def (N := ["_law_word", "_law_plain", "_law_sign"]) (ps := ["_law_word"]) D_ sc_law_number (fun _ _ _ _ _ _ us hl => match us, hl with | [_], _ => rfl) rfl rfl (by decide) fun f cdv A outer s H E hr =>
    (sb_cons (ss_set (i := 1) (sn_slice (se_var (pv 0)) (so_some (SN.toE (sn_int1 (sa_cons (SN.toE (sn_eq hr.units (SN.toE (sn_slice (se_var (pv 0)) so_none (so_some (SN.toE sn_int)))) (SN.toE sn_str))) sa_nil) z_int))) so_none) sc_law_number.nd)
    (sb_cons (ss_if (SW.st (sw_or (st_eq hr.units (se_var (pv 1)) (SN.toE sn_str)) (sw_or (st_gt (SN.toE (sn_len (sa_cons (se_var (pv 1)) sa_nil) z_len)) (SN.toE sn_int)) (sw_or (st_eq hr.units (se_var (pv 0)) (SN.toE sn_str)) (sw_or1 (SW.st (sw_and (st_eq hr.units (SN.toE (sn_sub_ix (se_var (pv 1)) (SN.toE sn_int))) (SN.toE sn_str)) (sw_and1 (st_gt (SN.toE (sn_len (sa_cons (se_var (pv 1)) sa_nil) z_len)) (SN.toE sn_int)))))))))) (sb_one (ss_ret sn_non)) sb_nil)
    (sb_cons (ss_forS passOwnX rfl (se_var (pv 1)) (pg_name (i := 2) sc_law_number.nd rfl (by first | exact Or.inl rfl | exact Or.inr rfl)) (sb_one (ss_if (st_nin (hu_of hr) (se_var (pv 2)) (SN.toE sn_str)) (sb_one (ss_ret sn_non)) sb_nil)))
    (sb_one (ss_ret (sn_intS (sa_cons (se_var (pv 0)) sa_nil) z_int))))))
theorem ok_law_is_name (D_ : DefAt K mg "_law_is_name" s_law_is_name) (z_len : mg "len" = none) : Cal P w K mg base C "_law_is_name" 1 1 m_law_is_name :=
  cal_def (N := ["_law_word", "_law_sign"]) (ps := ["_law_word"]) D_ sc_law_is_name (fun _ _ _ _ _ _ us hl => match us, hl with | [_], _ => rfl) rfl rfl (by decide) fun f cdv A outer s H E hr =>
    (sb_cons (ss_forS passOwnX rfl (se_var (pv 0)) (pg_name (i := 1) sc_law_is_name.nd rfl (by first | exact Or.inl rfl | exact Or.inr rfl)) (sb_one (ss_if (st_nin (hu_of hr) (se_var (pv 1)) (SN.toE sn_str)) (sb_one (ss_ret sn_bl)) sb_nil)))
    (sb_one (ss_ret (sn_and (SN.toE (sn_lt (SN.toE sn_int) (SN.toE (sn_len (sa_cons (se_var (pv 0)) sa_nil) z_len)))) (sn_one (sn_lt (SN.toE (sn_len (sa_cons (se_var (pv 0)) sa_nil) z_len)) (SN.toE sn_int)))))))
theorem ok_law_sum_along (D_ : DefAt K mg "_law_sum_along" s_law_sum_along) (c_law_number : Cal P w K mg base C "_law_number" 1 1 m_law_number) (c_law_is_name : Cal P w K mg base C "_law_is_name" 1 1 m_law_is_name) (z_len : mg "len" = none) (z_tuple : mg "tuple" = none) : Cal P w K mg base C "_law_sum_along" 2 1 m_law_sum_along :=
  cal_def (N := ["_law_words_here", "_law_parts", "_law_spot", "_law_by", "_law_name"]) (ps := ["_law_words_here"]) D_ sc_law_sum_along (fun _ _ _ _ _ _ us hl => match us, hl with | [_], _ => rfl) rfl rfl (by decide) fun f cdv A outer s H E hr =>
    (sb_cons (ss_set (i := 1) (sn_lst sa_nil) sc_law_sum_along.nd)
    (sb_cons (ss_set (i := 2) sn_int sc_law_sum_along.nd)
    (sb_cons (ss_while passOwnX (SW.st (sw_and (st_lt (se_var (pv 2)) (SN.toE (sn_len (sa_cons (se_var (pv 0)) sa_nil) z_len))) (sw_and1 (st_ne hr.units (SN.toE (sn_sub_ix (se_var (pv 0)) (se_var (pv 2)))) (SN.toE sn_str))))) (sb_cons (ss_set (i := 3) (sn_cal c_law_number (hr.mono (by decide)) passX (sa_cons (SN.toE (sn_sub_ix (se_var (pv 0)) (se_var (pv 2)))) sa_nil)) sc_law_sum_along.nd)
      (sb_cons (ss_set (i := 4) (sn_sub_ix (SN.toE (sn_add (se_var (pv 0)) (SN.toE (sn_lst (sa_cons (SN.toE sn_str) sa_nil))))) (SN.toE (sn_add (se_var (pv 2)) (SN.toE sn_int)))) sc_law_sum_along.nd)
      (sb_cons (ss_if (SW.st (sw_or (st_is (se_var (pv 3)) (SN.toE sn_non)) (sw_or (st_eq hr.units (se_var (pv 3)) (SN.toE sn_int)) (sw_or (st_not (st_val (SN.toE (sn_cal c_law_is_name (hr.mono (by decide)) passX (sa_cons (se_var (pv 4)) sa_nil))))) (sw_or1 (SW.st (sw_and (st_ne hr.units (se_var (pv 1)) (SN.toE (sn_lst sa_nil))) (sw_and1 (st_le (se_var (pv 4)) (SN.toE (sn_sub_ix (SN.toE (sn_sub_ix (se_var (pv 1)) (SN.toE (sn_neg (SN.toE sn_int))))) (SN.toE sn_int)))))))))))) (sb_one (ss_ret sn_non)) sb_nil)
      (sb_cons (ss_app (pv 1) (SN.toE (sn_tup (sa_cons (se_var (pv 4)) (sa_cons (se_var (pv 3)) sa_nil)))))
      (sb_one (ss_set (i := 2) (sn_add (se_var (pv 2)) (SN.toE sn_int)) sc_law_sum_along.nd)))))))
    (sb_cons (ss_if (SW.st (sw_or (st_ge (se_var (pv 2)) (SN.toE (sn_len (sa_cons (se_var (pv 0)) sa_nil) z_len))) (sw_or1 (st_is (SN.toE (sn_cal c_law_number (hr.mono (by decide)) passX (sa_cons (SN.toE (sn_sub_ix (se_var (pv 0)) (SN.toE sn_int))) sa_nil))) (SN.toE sn_non))))) (sb_one (ss_ret sn_non)) sb_nil)
    (sb_one (ss_ret (sn_pr (SN.toE (sn_tup (sa_cons (SN.toE (sn_cal c_law_number (hr.mono (by decide)) passX (sa_cons (SN.toE (sn_sub_ix (se_var (pv 0)) (SN.toE sn_int))) sa_nil))) (sa_cons (SN.toE (sn_tuple (sa_cons (se_var (pv 1)) sa_nil) z_tuple)) sa_nil)))) (sn_slice (se_var (pv 0)) (so_some (SN.toE (sn_add (se_var (pv 2)) (SN.toE sn_int)))) so_none))))))))

theorem ok2_law_parts_along_law_along (D_law_parts_along : DefAt K mg "_law_parts_along" s_law_parts_along) (D_law_along : DefAt K mg "_law_along" s_law_along) (c_law_number : Cal P w K mg base C "_law_number" 1 1 m_law_number) (c_law_sum_along : Cal P w K mg base C "_law_sum_along" 2 1 m_law_sum_along) (c_law_is_name : Cal P w K mg base C "_law_is_name" 1 1 m_law_is_name) (z_len : mg "len" = none) (z_tuple : mg "tuple" = none) : ∀ n : Nat, Cal P w K mg base C "_law_parts_along" (2 + n) 2 (m_law_parts_along n) ∧ Cal P w K mg base C "_law_along" (2 + n) 2 (m_law_along n)
  | 0 => ⟨cal_none (ps := ["_law_words_here", "_law_within_here"]) D_law_parts_along (fun _ _ _ _ _ _ us hl => match us, hl with | [_, _], _ => rfl) rfl,
    cal_none (ps := ["_law_words_here", "_law_within_here"]) D_law_along (fun _ _ _ _ _ _ us hl => match us, hl with | [_, _], _ => rfl) rfl⟩
  | n + 1 => by
    obtain ⟨ih_law_parts_along, ih_law_along⟩ := ok2_law_parts_along_law_along D_law_parts_along D_law_along c_law_number c_law_sum_along c_law_is_name z_len z_tuple n
    exact ⟨cal_def (N := ["_law_words_here", "_law_within_here", "_law_count", "_law_rest_of", "_law_parts", "_law_got"]) (ps := ["_law_words_here", "_law_within_here"]) D_law_parts_along sc_law_parts_along (fun _ _ _ _ _ _ us hl => match us, hl with | [_, _], _ => rfl) rfl rfl (by decide) fun f cdv A outer s H E hr =>
    (sb_cons (ss_set (i := 2) (sn_cal c_law_number (hr.mono (Nat.le_trans (by decide) (Nat.le_add_right _ _))) passX (sa_cons (SN.toE (sn_sub_ix (SN.toE (sn_add (se_var (pv 0)) (SN.toE (sn_lst (sa_cons (SN.toE sn_str) sa_nil))))) (SN.toE sn_int))) sa_nil)) sc_law_parts_along.nd)
    (sb_cons (ss_if (SW.st (sw_or (st_is (se_var (pv 2)) (SN.toE sn_non)) (sw_or1 (st_lt (se_var (pv 2)) (SN.toE sn_int))))) (sb_one (ss_ret sn_non)) sb_nil)
    (sb_cons (ss_set (i := 3) (sn_slice (se_var (pv 0)) (so_some (SN.toE sn_int)) so_none) sc_law_parts_along.nd)
    (sb_cons (ss_set (i := 4) (sn_lst sa_nil) sc_law_parts_along.nd)
    (sb_cons (ss_while passOwnX (st_lt (SN.toE (sn_len (sa_cons (se_var (pv 4)) sa_nil) z_len)) (se_var (pv 2))) (sb_cons (ss_set (i := 5) (sn_cal ih_law_along (hr.mono (Nat.le_refl _)) passX (sa_cons (se_var (pv 3)) (sa_cons (se_var (pv 1)) sa_nil))) sc_law_parts_along.nd)
      (sb_cons (ss_if (st_is (se_var (pv 5)) (SN.toE sn_non)) (sb_one (ss_ret sn_non)) sb_nil)
      (sb_cons (ss_app (pv 4) (SN.toE (sn_sub_ix (se_var (pv 5)) (SN.toE sn_int))))
      (sb_one (ss_mov (i := 5) (j := 3) (pv 5) sc_law_parts_along.nd))))))
    (sb_one (ss_retPr (SN.toE (sn_tuple (sa_cons (se_var (pv 4)) sa_nil) z_tuple)) (pv 3)))))))),
    cal_def (N := ["_law_words_here", "_law_within_here", "_law_kind", "_law_head", "_law_got"]) (ps := ["_law_words_here", "_law_within_here"]) D_law_along sc_law_along (fun _ _ _ _ _ _ us hl => match us, hl with | [_, _], _ => rfl) rfl rfl (by decide) fun f cdv A outer s H E hr =>
    (sb_cons (ss_if (SW.st (sw_or (st_eq hr.units (se_var (pv 0)) (SN.toE (sn_lst sa_nil))) (sw_or1 (st_eq hr.units (se_var (pv 1)) (SN.toE sn_int))))) (sb_one (ss_ret sn_non)) sb_nil)
    (sb_cons (ss_set (i := 2) (sn_sub_ix (se_var (pv 0)) (SN.toE sn_int)) sc_law_along.nd)
    (sb_cons (ss_set (i := 3) (sn_tup (sa_cons (se_var (pv 2)) sa_nil)) sc_law_along.nd)
    (sb_cons (ss_set (i := 4) sn_non sc_law_along.nd)
    (sb_cons (ss_if (SW.st (sw_or (st_eq hr.units (se_var (pv 2)) (SN.toE sn_str)) (sw_or1 (st_eq hr.units (se_var (pv 2)) (SN.toE sn_str))))) (sb_one (ss_set (i := 4) (sn_cal c_law_sum_along (hr.mono (Nat.le_trans (by decide) (Nat.le_add_right _ _))) passX (sa_cons (SN.toE (sn_slice (se_var (pv 0)) (so_some (SN.toE sn_int)) so_none)) sa_nil)) sc_law_along.nd)) sb_nil)
    (sb_cons (ss_if (SW.st (sw_and (st_eq hr.units (se_var (pv 2)) (SN.toE sn_str)) (sw_and (st_gt (SN.toE (sn_len (sa_cons (se_var (pv 0)) sa_nil) z_len)) (SN.toE sn_int)) (sw_and1 (st_gt (SN.toE (sn_orT (SN.toE (sn_cal c_law_number (hr.mono (Nat.le_trans (by decide) (Nat.le_add_right _ _))) passX (sa_cons (SN.toE (sn_sub_ix (se_var (pv 0)) (SN.toE sn_int))) sa_nil))) (sn_one sn_int))) (SN.toE sn_int)))))) (sb_cons (ss_set (i := 3) (sn_tup (sa_cons (se_var (pv 2)) (sa_cons (SN.toE (sn_cal c_law_number (hr.mono (Nat.le_trans (by decide) (Nat.le_add_right _ _))) passX (sa_cons (SN.toE (sn_sub_ix (se_var (pv 0)) (SN.toE sn_int))) sa_nil))) sa_nil))) sc_law_along.nd)
      (sb_one (ss_set (i := 4) (sn_cal c_law_sum_along (hr.mono (Nat.le_trans (by decide) (Nat.le_add_right _ _))) passX (sa_cons (SN.toE (sn_slice (se_var (pv 0)) (so_some (SN.toE sn_int)) so_none)) sa_nil)) sc_law_along.nd))) sb_nil)
    (sb_cons (ss_if (st_eq hr.units (se_var (pv 2)) (SN.toE sn_str)) (sb_one (ss_set (i := 4) (sn_cal ih_law_along (hr.mono (Nat.le_refl _)) passX (sa_cons (SN.toE (sn_slice (se_var (pv 0)) (so_some (SN.toE sn_int)) so_none)) (sa_cons (SN.toE (sn_add (se_var (pv 1)) (SN.toE sn_int))) sa_nil))) sc_law_along.nd)) sb_nil)
    (sb_cons (ss_if (SW.st (sw_or (st_eq hr.units (se_var (pv 2)) (SN.toE sn_str)) (sw_or1 (st_eq hr.units (se_var (pv 2)) (SN.toE sn_str))))) (sb_one (ss_set (i := 4) (sn_cal ih_law_parts_along (hr.mono (Nat.le_refl _)) passX (sa_cons (SN.toE (sn_slice (se_var (pv 0)) (so_some (SN.toE sn_int)) so_none)) (sa_cons (SN.toE (sn_add (se_var (pv 1)) (SN.toE sn_int))) sa_nil))) sc_law_along.nd)) sb_nil)
    (sb_cons (ss_if (SW.st (sw_and (SW.st (sw_or (st_eq hr.units (se_var (pv 2)) (SN.toE sn_str)) (sw_or1 (st_eq hr.units (se_var (pv 2)) (SN.toE sn_str))))) (sw_and (st_gt (SN.toE (sn_len (sa_cons (se_var (pv 0)) sa_nil) z_len)) (SN.toE sn_int)) (sw_and1 (st_val (SN.toE (sn_cal c_law_is_name (hr.mono (Nat.le_trans (by decide) (Nat.le_add_right _ _))) passX (sa_cons (SN.toE (sn_sub_ix (se_var (pv 0)) (SN.toE sn_int))) sa_nil)))))))) (sb_cons (ss_set (i := 3) (sn_tup (sa_cons (se_var (pv 2)) (sa_cons (SN.toE (sn_sub_ix (se_var (pv 0)) (SN.toE sn_int))) sa_nil))) sc_law_along.nd)
      (sb_one (ss_set (i := 4) (sn_cal ih_law_along (hr.mono (Nat.le_refl _)) passX (sa_cons (SN.toE (sn_slice (se_var (pv 0)) (so_some (SN.toE sn_int)) so_none)) (sa_cons (SN.toE (sn_add (se_var (pv 1)) (SN.toE sn_int))) sa_nil))) sc_law_along.nd))) sb_nil)
    (sb_cons (ss_if (st_is (se_var (pv 4)) (SN.toE sn_non)) (sb_one (ss_ret sn_non)) sb_nil)
    (sb_one (ss_retPr2 (SN.toE (sn_add (se_var (pv 3)) (SN.toE (sn_tup (sa_cons (SN.toE (sn_sub_ix (se_var (pv 4)) (SN.toE sn_int))) sa_nil))))) (pv 4)))))))))))))⟩
theorem ok_law_parts_along (D_law_parts_along : DefAt K mg "_law_parts_along" s_law_parts_along) (D_law_along : DefAt K mg "_law_along" s_law_along) (c_law_number : Cal P w K mg base C "_law_number" 1 1 m_law_number) (c_law_sum_along : Cal P w K mg base C "_law_sum_along" 2 1 m_law_sum_along) (c_law_is_name : Cal P w K mg base C "_law_is_name" 1 1 m_law_is_name) (z_len : mg "len" = none) (z_tuple : mg "tuple" = none) (n : Nat) : Cal P w K mg base C "_law_parts_along" (2 + n) 2 (m_law_parts_along n) := (ok2_law_parts_along_law_along D_law_parts_along D_law_along c_law_number c_law_sum_along c_law_is_name z_len z_tuple n).1
theorem ok_law_along (D_law_parts_along : DefAt K mg "_law_parts_along" s_law_parts_along) (D_law_along : DefAt K mg "_law_along" s_law_along) (c_law_number : Cal P w K mg base C "_law_number" 1 1 m_law_number) (c_law_sum_along : Cal P w K mg base C "_law_sum_along" 2 1 m_law_sum_along) (c_law_is_name : Cal P w K mg base C "_law_is_name" 1 1 m_law_is_name) (z_len : mg "len" = none) (z_tuple : mg "tuple" = none) (n : Nat) : Cal P w K mg base C "_law_along" (2 + n) 2 (m_law_along n) := (ok2_law_parts_along_law_along D_law_parts_along D_law_along c_law_number c_law_sum_along c_law_is_name z_len z_tuple n).2
theorem ok_law_changed (D_ : DefAt K mg "_law_changed" s_law_changed) (z_len : mg "len" = none) (z_int : mg "int" = none) (z_max : mg "max" = none) : Cal P w K mg base C "_law_changed" 1 2 m_law_changed :=
  cal_def (N := ["_law_words_here", "_law_cell", "_law_others", "_law_spot", "_law_other", "_law_word", "_law_cut"]) (ps := ["_law_words_here", "_law_cell"]) D_ sc_law_changed (fun _ _ _ _ _ _ us hl => match us, hl with | [_, _], _ => rfl) rfl rfl (by decide) fun f cdv A outer s H E hr =>
    (sb_cons (ss_set (i := 2) (sn_lst (sa_cons (SN.toE sn_str) (sa_cons (SN.toE sn_str) (sa_cons (SN.toE sn_str) (sa_cons (SN.toE sn_str) (sa_cons (SN.toE sn_str) (sa_cons (SN.toE sn_str) (sa_cons (SN.toE sn_str) (sa_cons (SN.toE sn_str) (sa_cons (SN.toE sn_str) (sa_cons (SN.toE sn_str) (sa_cons (SN.toE sn_str) (sa_cons (SN.toE sn_str) (sa_cons (SN.toE sn_str) sa_nil)))))))))))))) sc_law_changed.nd)
    (sb_cons (ss_set (i := 2) (sn_add (se_var (pv 2)) (SN.toE (sn_lst (sa_cons (SN.toE sn_str) (sa_cons (SN.toE sn_str) (sa_cons (SN.toE (sn_mul (SN.toE sn_str) (SN.toE sn_int))) (sa_cons (SN.toE sn_str) (sa_cons (SN.toE sn_str) (sa_cons (SN.toE sn_str) (sa_cons (SN.toE sn_str) (sa_cons (SN.toE sn_str) (sa_cons (SN.toE sn_str) (sa_cons (SN.toE sn_str) (sa_cons (SN.toE sn_str) (sa_cons (SN.toE sn_str) sa_nil))))))))))))))) sc_law_changed.nd)
    (sb_cons (ss_set (i := 3) (sn_mod (SN.toE (sn_div (se_var (pv 1)) (SN.toE sn_int))) (SN.toE (sn_add (SN.toE (sn_len (sa_cons (se_var (pv 0)) sa_nil) z_len)) (SN.toE (sn_int1 (sa_cons (SN.toE (sn_and (SN.toE (sn_gt (SN.toE (sn_mod (se_var (pv 1)) (SN.toE sn_int))) (SN.toE sn_int))) (sn_one (sn_lt (SN.toE (sn_mod (se_var (pv 1)) (SN.toE sn_int))) (SN.toE sn_int))))) sa_nil) z_int))))) sc_law_changed.nd)
    (sb_cons (ss_set (i := 4) (sn_sub_ix (se_var (pv 2)) (SN.toE (sn_mod (SN.toE (sn_div (se_var (pv 1)) (SN.toE sn_int))) (SN.toE sn_int)))) sc_law_changed.nd)
    (sb_cons (ss_if (st_eq hr.units (SN.toE (sn_mod (se_var (pv 1)) (SN.toE sn_int))) (SN.toE sn_int)) (sb_one (ss_ret (sn_add (SN.toE (sn_slice (se_var (pv 0)) so_none (so_some (se_var (pv 3))))) (SN.toE (sn_slice (se_var (pv 0)) (so_some (SN.toE (sn_add (se_var (pv 3)) (SN.toE sn_int)))) so_none))))) sb_nil)
    (sb_cons (ss_if (st_eq hr.units (SN.toE (sn_mod (se_var (pv 1)) (SN.toE sn_int))) (SN.toE sn_int)) (sb_one (ss_ret (sn_add (SN.toE (sn_add (SN.toE (sn_slice (se_var (pv 0)) so_none (so_some (se_var (pv 3))))) (SN.toE (sn_lst (sa_cons (se_var (pv 4)) sa_nil))))) (SN.toE (sn_slice (se_var (pv 0)) (so_some (SN.toE (sn_add (se_var (pv 3)) (SN.toE sn_int)))) so_none))))) sb_nil)
    (sb_cons (ss_if (st_eq hr.units (SN.toE (sn_mod (se_var (pv 1)) (SN.toE sn_int))) (SN.toE sn_int)) (sb_one (ss_ret (sn_add (SN.toE (sn_add (SN.toE (sn_slice (se_var (pv 0)) so_none (so_some (se_var (pv 3))))) (SN.toE (sn_lst (sa_cons (se_var (pv 4)) sa_nil))))) (SN.toE (sn_slice (se_var (pv 0)) (so_some (se_var (pv 3))) so_none))))) sb_nil)
    (sb_cons (ss_if (st_eq hr.units (SN.toE (sn_mod (se_var (pv 1)) (SN.toE sn_int))) (SN.toE sn_int)) (sb_cons (ss_set (i := 5) (sn_sub_ix (se_var (pv 0)) (se_var (pv 3))) sc_law_changed.nd)
      (sb_cons (ss_set (i := 6) (sn_mod (SN.toE (sn_div (se_var (pv 1)) (SN.toE sn_int))) (SN.toE (sn_max2 rfl (sa_cons (SN.toE sn_int) (sa_cons (SN.toE (sn_len (sa_cons (se_var (pv 5)) sa_nil) z_len)) sa_nil)) z_max))) sc_law_changed.nd)
      (sb_one (ss_ret (sn_add (SN.toE (sn_add (SN.toE (sn_slice (se_var (pv 0)) so_none (so_some (se_var (pv 3))))) (SN.toE (sn_lst (sa_cons (SN.toE (sn_add (SN.toE (sn_add (SN.toE (sn_slice (se_var (pv 5)) so_none (so_some (se_var (pv 6))))) (SN.toE (sn_sub_ix (SN.toE (sn_lst (sa_cons (SN.toE sn_str) (sa_cons (SN.toE sn_str) sa_nil)))) (SN.toE (sn_mod (SN.toE (sn_div (se_var (pv 1)) (SN.toE sn_int))) (SN.toE sn_int))))))) (SN.toE (sn_slice (se_var (pv 5)) (so_some (SN.toE (sn_add (se_var (pv 6)) (SN.toE sn_int)))) so_none)))) sa_nil))))) (SN.toE (sn_slice (se_var (pv 0)) (so_some (SN.toE (sn_add (se_var (pv 3)) (SN.toE sn_int)))) so_none))))))) sb_nil)
    (sb_one (ss_ret (sn_add (SN.toE (sn_add (SN.toE (sn_slice (se_var (pv 0)) so_none (so_some (se_var (pv 3))))) (SN.toE (sn_lst (sa_cons (SN.toE sn_str) sa_nil))))) (SN.toE (sn_slice (se_var (pv 0)) (so_some (se_var (pv 3))) so_none)))))))))))))
theorem ok_law_read (D_ : DefAt K mg "_law_read" s_law_read) (c_read : Cal P w K mg base C "read" 104 1 m_read) (c_law_word_of : CalW P w K mg base C "_law_word_of" 1) (x_SomeError : ExmAt K mg C "SomeError") : Cal P w K mg base C "_law_read" 105 1 m_law_read :=
  cal_def (N := ["_law_text", "_law_e"]) (ps := ["_law_text"]) D_ sc_law_read (fun _ _ _ _ _ _ us hl => match us, hl with | [_], _ => rfl) rfl rfl (by decide) fun f cdv A outer s H E hr =>
    (sb_one (ss_tryT c_read c_law_word_of x_SomeError (hr.mono (by decide)) (hr.mono (by decide)) (sat_cons (fun _ _ => pv 0) sat_nil) (fun _ _ _ => pv 1) sc_law_read.nd))
theorem ok_law_is_due (D_ : DefAt K mg "_law_is_due" s_law_is_due) (c_law_along : Cal P w K mg base C "_law_along" 102 2 (m_law_along 100)) (c_law_read : Cal P w K mg base C "_law_read" 105 1 m_law_read) (c_law_alike : Cal P w K mg base C "_law_alike" 101 2 (m_law_alike 100)) : Cal P w K mg base C "_law_is_due" 106 1 m_law_is_due :=
  cal_def (N := ["_law_text", "_law_got"]) (ps := ["_law_text"]) D_ sc_law_is_due (fun _ _ _ _ _ _ us hl => match us, hl with | [_], _ => rfl) rfl rfl (by decide) fun f cdv A outer s H E hr =>
    (sb_cons (ss_set (i := 1) (sn_cal c_law_along (hr.mono (by decide)) passX (sa_cons (SN.toE (sn_split (se_var (pv 0)) (SN.toE sn_str))) (sa_cons (SN.toE sn_int) sa_nil))) sc_law_is_due.nd)
    (sb_cons (ss_if (SW.st (sw_or (st_is (se_var (pv 1)) (SN.toE sn_non)) (sw_or1 (st_ne hr.units (se_pr1 (se_var (pv 1))) (SN.toE (sn_lst sa_nil)))))) (sb_one (ss_ret (sn_cal c_law_alike (hr.mono (by decide)) passX (sa_cons (SN.toE (sn_cal c_law_read (hr.mono (by decide)) passX (sa_cons (se_var (pv 0)) sa_nil))) (sa_cons (SN.toE (sn_tup (sa_cons (SN.toE sn_str) (sa_cons (SN.toE sn_bl) sa_nil)))) sa_nil))))) sb_nil)
    (sb_one (ss_ret (sn_cal c_law_alike (hr.mono (by decide)) passX (sa_cons (SN.toE (sn_cal c_law_read (hr.mono (by decide)) passX (sa_cons (se_var (pv 0)) sa_nil))) (sa_cons (SN.toE (sn_tup (sa_cons (SN.toE sn_str) (sa_cons (SN.toE (sn_sub_ix (se_var (pv 1)) (SN.toE sn_int))) sa_nil)))) sa_nil)))))))
theorem body_law (c_law_cell_at : Cal P w K mg base C "_law_cell_at" 1 2 m_law_cell_at) (c_law_names_by : Cal P w K mg base C "_law_names_by" 1 1 m_law_names_by) (c_law_plain_by : Cal P w K mg base C "_law_plain_by" 3 6 m_law_plain_by) (c_law_big_by : Cal P w K mg base C "_law_big_by" 1 1 m_law_big_by) (c_law_bound_by : Cal P w K mg base C "_law_bound_by" 1 3 m_law_bound_by) (c_law_within : Cal P w K mg base C "_law_within" 100 1 (m_law_within 100)) (c_law_words : Cal P w K mg base C "_law_words" 101 1 (m_law_words 100)) (c_written : Cal P w K mg base C "written" 102 1 m_written) (c_law_read : Cal P w K mg base C "_law_read" 105 1 m_law_read) (c_law_alike : Cal P w K mg base C "_law_alike" 101 2 (m_law_alike 100)) (c_law_is_due : Cal P w K mg base C "_law_is_due" 106 1 m_law_is_due) (c_law_changed : Cal P w K mg base C "_law_changed" 1 2 m_law_changed) (z_range : mg "range" = none) (z_isinstance : mg "isinstance" = none) (z_str : mg "str" = none) (y_MOST_WITHIN : GlobT K mg "MOST_WITHIN" t_MOST_WITHIN) : ∀ (f : Addr) (cdv : Value) (A : Around) (outer : List Env) (s : Shared) (H : Hp) (E : XK), Room 106 (A.deeper (PyProof.Rows.envOfC "law" (defScope s_law) s.heap.objs.size f cdv)) →
    SB (cxOf (L2N.CX P w) P w K mg base ["_law_script", "_law_names", "_law_most", "_law_statement", "_law_great", "_law_k", "_law_words_here", "_law_got", "_law_tail", "_law_note", "_law_cell", "_law_inner", "_law_far", "_law_wraps"] "law" (defScope s_law) f cdv A outer s H E) E C (defBody s_law) g_law := fun f cdv A outer s H E hr =>
    (sb_cons (ss_set (i := 1) (sn_cal c_law_names_by (hr.mono (by decide)) passX (sa_cons (SN.toE (sn_cal c_law_cell_at (hr.mono (by decide)) passX (sa_cons (se_var (pv 0)) (sa_cons (SN.toE sn_int) sa_nil)))) sa_nil)) sc_law.nd)
    (sb_cons (ss_set (i := 2) (sn_sub_ix (SN.toE (sn_lst (sa_cons (SN.toE sn_int) (sa_cons (SN.toE (sn_sub (SN.toE (sn_pow (SN.toE sn_int) (SN.toE sn_int))) (SN.toE sn_int))) sa_nil)))) (SN.toE (sn_mod (SN.toE (sn_div (SN.toE (sn_cal c_law_cell_at (hr.mono (by decide)) passX (sa_cons (se_var (pv 0)) (sa_cons (SN.toE sn_int) sa_nil)))) (SN.toE sn_int))) (SN.toE sn_int)))) sc_law.nd)
    (sb_cons (ss_set (i := 3) (sn_cal c_law_plain_by (hr.mono (by decide)) passX (sa_cons (se_var (pv 0)) (sa_cons (SN.toE sn_int) (sa_cons (SN.toE (sn_add (SN.toE sn_int) (SN.toE (sn_mod (SN.toE (sn_cal c_law_cell_at (hr.mono (by decide)) passX (sa_cons (se_var (pv 0)) (sa_cons (SN.toE sn_int) sa_nil)))) (SN.toE sn_int))))) (sa_cons (SN.toE (sn_slice (se_var (pv 1)) so_none (so_some (SN.toE sn_int)))) (sa_cons (SN.toE sn_int) (sa_cons (se_var (pv 2)) sa_nil))))))) sc_law.nd)
    (sb_cons (ss_set (i := 4) (sn_tup (sa_cons (SN.toE (sn_cal c_law_big_by (hr.mono (by decide)) passX (sa_cons (SN.toE (sn_cal c_law_cell_at (hr.mono (by decide)) passX (sa_cons (se_var (pv 0)) (sa_cons (SN.toE sn_int) sa_nil)))) sa_nil))) (sa_cons (SN.toE (sn_tup (sa_cons (SN.toE (sn_tup (sa_cons (SN.toE (sn_sub_ix (se_var (pv 1)) (SN.toE sn_int))) (sa_cons (SN.toE (sn_add (SN.toE (sn_mul (SN.toE (sn_cal c_law_big_by (hr.mono (by decide)) passX (sa_cons (SN.toE (sn_div (SN.toE (sn_cal c_law_cell_at (hr.mono (by decide)) passX (sa_cons (se_var (pv 0)) (sa_cons (SN.toE sn_int) sa_nil)))) (SN.toE sn_int))) sa_nil))) (SN.toE sn_int))) (SN.toE sn_int))) sa_nil)))) sa_nil))) sa_nil))) sc_law.nd)
    (sb_cons (ss_if (SW.st (sw_and (st_lt (SN.toE (sn_sub_ix (SN.toE (sn_sub_ix (SN.toE (sn_sub_ix (se_var (pv 4)) (SN.toE sn_int))) (SN.toE sn_int))) (SN.toE sn_int))) (SN.toE (sn_pow (SN.toE sn_int) (SN.toE sn_int)))) (sw_and1 (st_gt (SN.toE (sn_sub_ix (SN.toE (sn_sub_ix (SN.toE (sn_sub_ix (se_var (pv 4)) (SN.toE sn_int))) (SN.toE sn_int))) (SN.toE sn_int))) (SN.toE (sn_sub (SN.toE sn_int) (SN.toE (sn_pow (SN.toE sn_int) (SN.toE sn_int))))))))) (sb_one (ss_set (i := 3) (sn_tup (sa_cons (SN.toE sn_str) (sa_cons (SN.toE (sn_tup (sa_cons (SN.toE (sn_tup (sa_cons (SN.toE sn_str) (sa_cons (se_var (pv 4)) sa_nil)))) (sa_cons (se_var (pv 3)) sa_nil)))) sa_nil))) sc_law.nd)) sb_nil)
    (sb_cons (ss_forR1 passOwnX rfl z_range (sa_cons (SN.toE (sn_mod (SN.toE (sn_cal c_law_cell_at (hr.mono (by decide)) passX (sa_cons (se_var (pv 0)) (sa_cons (SN.toE sn_int) sa_nil)))) (SN.toE sn_int))) sa_nil) (pg_name (i := 5) sc_law.nd rfl (by first | exact Or.inl rfl | exact Or.inr rfl)) (sb_one (ss_set (i := 3) (sn_cal c_law_bound_by (hr.mono (by decide)) passX (sa_cons (SN.toE (sn_cal c_law_cell_at (hr.mono (by decide)) passX (sa_cons (se_var (pv 0)) (sa_cons (SN.toE (sn_add (SN.toE sn_int) (se_var (pv 5)))) sa_nil)))) (sa_cons (se_var (pv 3)) (sa_cons (se_var (pv 1)) sa_nil)))) sc_law.nd)))
    (sb_cons (ss_if (st_eq hr.units (SN.toE (sn_mod (SN.toE (sn_cal c_law_cell_at (hr.mono (by decide)) passX (sa_cons (se_var (pv 0)) (sa_cons (SN.toE sn_int) sa_nil)))) (SN.toE sn_int))) (SN.toE sn_int)) (sb_one (ss_forR1 passOwnX rfl z_range (sa_cons (SN.toE (sn_sub (SN.toE (sn_add (SN.toE sn_int) (SN.toE (sn_mod (SN.toE (sn_div (SN.toE (sn_cal c_law_cell_at (hr.mono (by decide)) passX (sa_cons (se_var (pv 0)) (sa_cons (SN.toE sn_int) sa_nil)))) (SN.toE sn_int))) (SN.toE sn_int))))) (SN.toE (sn_cal c_law_within (hr.mono (by decide)) passX (sa_cons (se_var (pv 3)) sa_nil))))) sa_nil) (pg_name (i := 5) sc_law.nd rfl (by first | exact Or.inl rfl | exact Or.inr rfl)) (sb_cons (ss_set (i := 11) (sn_sub_ix (SN.toE (sn_lst (sa_cons (SN.toE sn_str) (sa_cons (SN.toE sn_str) sa_nil)))) (SN.toE (sn_mod (SN.toE (sn_div (se_var (pv 5)) (SN.toE sn_int))) (SN.toE sn_int)))) sc_law.nd)
        (sb_cons (ss_set (i := 12) (sn_add (SN.toE (sn_div (SN.toE (sn_cal c_law_cell_at (hr.mono (by decide)) passX (sa_cons (se_var (pv 0)) (sa_cons (SN.toE sn_int) sa_nil)))) (SN.toE sn_int))) (se_var (pv 5))) sc_law.nd)
        (sb_cons (ss_set (i := 13) (sn_lst (sa_cons (SN.toE (sn_tup (sa_cons (SN.toE sn_str) (sa_cons (se_var (pv 3)) sa_nil)))) (sa_cons (SN.toE (sn_tup (sa_cons (SN.toE sn_str) (sa_cons (SN.toE (sn_tup (sa_cons (se_var (pv 3)) sa_nil))) sa_nil)))) (sa_cons (SN.toE (sn_tup (sa_cons (se_var (pv 11)) (sa_cons (SN.toE (sn_sub_ix (se_var (pv 1)) (SN.toE (sn_mod (SN.toE (sn_div (se_var (pv 12)) (SN.toE sn_int))) (SN.toE sn_int))))) (sa_cons (se_var (pv 3)) sa_nil))))) sa_nil)))) sc_law.nd)
        (sb_one (ss_set (i := 3) (sn_sub_ix (SN.toE (sn_add (se_var (pv 13)) (SN.toE (sn_lst (sa_cons (SN.toE (sn_tup (sa_cons (SN.toE sn_str) (sa_cons (SN.toE (sn_tup (sa_cons (se_var (pv 3)) sa_nil))) sa_nil)))) (sa_cons (SN.toE (sn_tup (sa_cons (SN.toE sn_str) (sa_cons (se_var (pv 3)) sa_nil)))) sa_nil)))))) (SN.toE (sn_mod (se_var (pv 12)) (SN.toE sn_int)))) sc_law.nd))))))) sb_nil)
    (sb_cons (ss_set (i := 6) (sn_cal c_law_words (hr.mono (by decide)) passX (sa_cons (se_var (pv 3)) sa_nil)) sc_law.nd)
    (sb_cons (ss_set (i := 7) (sn_join (se_var (pv 6))) sc_law.nd)
    (sb_cons (ss_if (st_ne hr.units (SN.toE (sn_globT (t := t_MOST_WITHIN) y_MOST_WITHIN)) (SN.toE sn_int)) (sb_one (ss_ret sn_bl)) sb_nil)
    (sb_cons (ss_if (st_le (SN.toE (sn_cal c_law_within (hr.mono (by decide)) passX (sa_cons (se_var (pv 3)) sa_nil))) (SN.toE sn_int)) (sb_cons (ss_set (i := 9) (sn_cal c_written (hr.mono (by decide)) passX (sa_cons (se_var (pv 3)) sa_nil)) sc_law.nd)
      (sb_one (ss_if (SW.st (sw_or (st_not (st_val (SN.toE (sn_isi (se_var (pv 9)) z_isinstance z_str (by decide +kernel))))) (sw_or (st_ne hr.units (se_var (pv 9)) (se_var (pv 7))) (sw_or1 (st_not (st_val (SN.toE (sn_cal c_law_alike (hr.mono (by decide)) passX (sa_cons (SN.toE (sn_cal c_law_read (hr.mono (by decide)) passX (sa_cons (se_var (pv 7)) sa_nil))) (sa_cons (SN.toE (sn_tup (sa_cons (SN.toE sn_str) (sa_cons (se_var (pv 3)) sa_nil)))) sa_nil)))))))))) (sb_one (ss_ret sn_bl)) sb_nil))) sb_nil)
    (sb_cons (ss_set (i := 8) (sn_sub_ix (SN.toE (sn_lst (sa_cons (SN.toE sn_str) (sa_cons (SN.toE sn_str) (sa_cons (SN.toE sn_str) (sa_cons (SN.toE sn_str) sa_nil)))))) (SN.toE (sn_mod (SN.toE (sn_div (SN.toE (sn_cal c_law_cell_at (hr.mono (by decide)) passX (sa_cons (se_var (pv 0)) (sa_cons (SN.toE sn_int) sa_nil)))) (SN.toE sn_int))) (SN.toE sn_int)))) sc_law.nd)
    (sb_cons (ss_if (SW.st (sw_or (st_not (st_val (SN.toE (sn_cal c_law_is_due (hr.mono (by decide)) passX (sa_cons (se_var (pv 7)) sa_nil))))) (sw_or (st_not (st_val (SN.toE (sn_cal c_law_is_due (hr.mono (by decide)) passX (sa_cons (SN.toE (sn_add (se_var (pv 7)) (se_var (pv 8)))) sa_nil))))) (sw_or1 (st_not (st_val (SN.toE (sn_cal c_law_is_due (hr.mono (by decide)) passX (sa_cons (SN.toE (sn_add (se_var (pv 8)) (se_var (pv 7)))) sa_nil))))))))) (sb_one (ss_ret sn_bl)) sb_nil)
    (sb_cons (ss_forR1 passOwnX rfl z_range (sa_cons (SN.toE sn_int) sa_nil) (pg_name (i := 5) sc_law.nd rfl (by first | exact Or.inl rfl | exact Or.inr rfl)) (sb_cons (ss_set (i := 10) (sn_mod (SN.toE (sn_mul (SN.toE (sn_add (SN.toE (sn_add (SN.toE (sn_div (SN.toE (sn_cal c_law_cell_at (hr.mono (by decide)) passX (sa_cons (se_var (pv 0)) (sa_cons (SN.toE sn_int) sa_nil)))) (SN.toE sn_int))) (SN.toE sn_int))) (se_var (pv 5)))) (SN.toE sn_int))) (SN.toE sn_int)) sc_law.nd)
      (sb_one (ss_if (st_not (st_val (SN.toE (sn_cal c_law_is_due (hr.mono (by decide)) passX (sa_cons (SN.toE (sn_join (SN.toE (sn_cal c_law_changed (hr.mono (by decide)) passX (sa_cons (se_var (pv 6)) (sa_cons (se_var (pv 10)) sa_nil)))))) sa_nil))))) (sb_one (ss_ret sn_bl)) sb_nil))))
    (sb_one (ss_ret sn_bl))))))))))))))))
end
end Pf

set_option Elab.async false
set_option linter.all false
set_option maxRecDepth 100000
set_option maxHeartbeats 4000000
namespace Pf
open PySem L2
theorem all_mk {P : Program} {w : World} {K : PySem.W.Frag} {mg : Str → Option Value} {h : Heap} {fa : Addr} (KX : K.In h) (G : h.Ns mainGlobals mg) (hmg : mg "law" = some (.ref fa))
    {f_law_cell_at : Addr} {od_law_cell_at an_law_cell_at : Option Addr} {sl_law_cell_at : Array (Option Value)} {oc_law_cell_at kV_law_cell_at dc_law_cell_at pm_law_cell_at cd_law_cell_at ct_law_cell_at : Value}
    (a_law_cell_at : PySem.W.nsIn K mainGlobals "_law_cell_at" = some (some (.ref f_law_cell_at))) (l_law_cell_at : K.lookup f_law_cell_at = some ⟨oc_law_cell_at, od_law_cell_at, .func (PySem.W.fnOf "_law_cell_at" "_law_cell_at" (defArgs s_law_cell_at) (defBody s_law_cell_at) (defScope s_law_cell_at) .none kV_law_cell_at dc_law_cell_at pm_law_cell_at an_law_cell_at cd_law_cell_at ct_law_cell_at), sl_law_cell_at⟩) (c_law_cell_at : PySem.W.codeIn K cd_law_cell_at "_law_cell_at" = true) (k_law_cell_at : PySem.W.keepIn K (.ref f_law_cell_at) = true)
    {f_law_names_by : Addr} {od_law_names_by an_law_names_by : Option Addr} {sl_law_names_by : Array (Option Value)} {oc_law_names_by kV_law_names_by dc_law_names_by pm_law_names_by cd_law_names_by ct_law_names_by : Value}
    (a_law_names_by : PySem.W.nsIn K mainGlobals "_law_names_by" = some (some (.ref f_law_names_by))) (l_law_names_by : K.lookup f_law_names_by = some ⟨oc_law_names_by, od_law_names_by, .func (PySem.W.fnOf "_law_names_by" "_law_names_by" (defArgs s_law_names_by) (defBody s_law_names_by) (defScope s_law_names_by) .none kV_law_names_by dc_law_names_by pm_law_names_by an_law_names_by cd_law_names_by ct_law_names_by), sl_law_names_by⟩) (c_law_names_by : PySem.W.codeIn K cd_law_names_by "_law_names_by" = true) (k_law_names_by : PySem.W.keepIn K (.ref f_law_names_by) = true)
    {f_law_sum_by : Addr} {od_law_sum_by an_law_sum_by : Option Addr} {sl_law_sum_by : Array (Option Value)} {oc_law_sum_by kV_law_sum_by dc_law_sum_by pm_law_sum_by cd_law_sum_by ct_law_sum_by : Value}
    (a_law_sum_by : PySem.W.nsIn K mainGlobals "_law_sum_by" = some (some (.ref f_law_sum_by))) (l_law_sum_by : K.lookup f_law_sum_by = some ⟨oc_law_sum_by, od_law_sum_by, .func (PySem.W.fnOf "_law_sum_by" "_law_sum_by" (defArgs s_law_sum_by) (defBody s_law_sum_by) (defScope s_law_sum_by) .none kV_law_sum_by dc_law_sum_by pm_law_sum_by an_law_sum_by cd_law_sum_by ct_law_sum_by), sl_law_sum_by⟩) (c_law_sum_by : PySem.W.codeIn K cd_law_sum_by "_law_sum_by" = true) (k_law_sum_by : PySem.W.keepIn K (.ref f_law_sum_by) = true)
    {f_law_end_by : Addr} {od_law_end_by an_law_end_by : Option Addr} {sl_law_end_by : Array (Option Value)} {oc_law_end_by kV_law_end_by dc_law_end_by pm_law_end_by cd_law_end_by ct_law_end_by : Value}
    (a_law_end_by : PySem.W.nsIn K mainGlobals "_law_end_by" = some (some (.ref f_law_end_by))) (l_law_end_by : K.lookup f_law_end_by = some ⟨oc_law_end_by, od_law_end_by, .func (PySem.W.fnOf "_law_end_by" "_law_end_by" (defArgs s_law_end_by) (defBody s_law_end_by) (defScope s_law_end_by) .none kV_law_end_by dc_law_end_by pm_law_end_by an_law_end_by cd_law_end_by ct_law_end_by), sl_law_end_by⟩) (c_law_end_by : PySem.W.codeIn K cd_law_end_by "_law_end_by" = true) (k_law_end_by : PySem.W.keepIn K (.ref f_law_end_by) = true)
    {f_law_plain_by : Addr} {od_law_plain_by an_law_plain_by : Option Addr} {sl_law_plain_by : Array (Option Value)} {oc_law_plain_by kV_law_plain_by dc_law_plain_by pm_law_plain_by cd_law_plain_by ct_law_plain_by : Value}
    (a_law_plain_by : PySem.W.nsIn K mainGlobals "_law_plain_by" = some (some (.ref f_law_plain_by))) (l_law_plain_by : K.lookup f_law_plain_by = some ⟨oc_law_plain_by, od_law_plain_by, .func (PySem.W.fnOf "_law_plain_by" "_law_plain_by" (defArgs s_law_plain_by) (defBody s_law_plain_by) (defScope s_law_plain_by) .none kV_law_plain_by dc_law_plain_by pm_law_plain_by an_law_plain_by cd_law_plain_by ct_law_plain_by), sl_law_plain_by⟩) (c_law_plain_by : PySem.W.codeIn K cd_law_plain_by "_law_plain_by" = true) (k_law_plain_by : PySem.W.keepIn K (.ref f_law_plain_by) = true)
    {f_law_big_by : Addr} {od_law_big_by an_law_big_by : Option Addr} {sl_law_big_by : Array (Option Value)} {oc_law_big_by kV_law_big_by dc_law_big_by pm_law_big_by cd_law_big_by ct_law_big_by : Value}
    (a_law_big_by : PySem.W.nsIn K mainGlobals "_law_big_by" = some (some (.ref f_law_big_by))) (l_law_big_by : K.lookup f_law_big_by = some ⟨oc_law_big_by, od_law_big_by, .func (PySem.W.fnOf "_law_big_by" "_law_big_by" (defArgs s_law_big_by) (defBody s_law_big_by) (defScope s_law_big_by) .none kV_law_big_by dc_law_big_by pm_law_big_by an_law_big_by cd_law_big_by ct_law_big_by), sl_law_big_by⟩) (c_law_big_by : PySem.W.codeIn K cd_law_big_by "_law_big_by" = true) (k_law_big_by : PySem.W.keepIn K (.ref f_law_big_by) = true)
    {f_law_bound_by : Addr} {od_law_bound_by an_law_bound_by : Option Addr} {sl_law_bound_by : Array (Option Value)} {oc_law_bound_by kV_law_bound_by dc_law_bound_by pm_law_bound_by cd_law_bound_by ct_law_bound_by : Value}
    (a_law_bound_by : PySem.W.nsIn K mainGlobals "_law_bound_by" = some (some (.ref f_law_bound_by))) (l_law_bound_by : K.lookup f_law_bound_by = some ⟨oc_law_bound_by, od_law_bound_by, .func (PySem.W.fnOf "_law_bound_by" "_law_bound_by" (defArgs s_law_bound_by) (defBody s_law_bound_by) (defScope s_law_bound_by) .none kV_law_bound_by dc_law_bound_by pm_law_bound_by an_law_bound_by cd_law_bound_by ct_law_bound_by), sl_law_bound_by⟩) (c_law_bound_by : PySem.W.codeIn K cd_law_bound_by "_law_bound_by" = true) (k_law_bound_by : PySem.W.keepIn K (.ref f_law_bound_by) = true)
    {f_law_within : Addr} {od_law_within an_law_within : Option Addr} {sl_law_within : Array (Option Value)} {oc_law_within kV_law_within dc_law_within pm_law_within cd_law_within ct_law_within : Value}
    (a_law_within : PySem.W.nsIn K mainGlobals "_law_within" = some (some (.ref f_law_within))) (l_law_within : K.lookup f_law_within = some ⟨oc_law_within, od_law_within, .func (PySem.W.fnOf "_law_within" "_law_within" (defArgs s_law_within) (defBody s_law_within) (defScope s_law_within) .none kV_law_within dc_law_within pm_law_within an_law_within cd_law_within ct_law_within), sl_law_within⟩) (c_law_within : PySem.W.codeIn K cd_law_within "_law_within" = true) (k_law_within : PySem.W.keepIn K (.ref f_law_within) = true)
    {f_law_sum_words : Addr} {od_law_sum_words an_law_sum_words : Option Addr} {sl_law_sum_words : Array (Option Value)} {oc_law_sum_words kV_law_sum_words dc_law_sum_words pm_law_sum_words cd_law_sum_words ct_law_sum_words : Value}
    (a_law_sum_words : PySem.W.nsIn K mainGlobals "_law_sum_words" = some (some (.ref f_law_sum_words))) (l_law_sum_words : K.lookup f_law_sum_words = some ⟨oc_law_sum_words, od_law_sum_words, .func (PySem.W.fnOf "_law_sum_words" "_law_sum_words" (defArgs s_law_sum_words) (defBody s_law_sum_words) (defScope s_law_sum_words) .none kV_law_sum_words dc_law_sum_words pm_law_sum_words an_law_sum_words cd_law_sum_words ct_law_sum_words), sl_law_sum_words⟩) (c_law_sum_words : PySem.W.codeIn K cd_law_sum_words "_law_sum_words" = true) (k_law_sum_words : PySem.W.keepIn K (.ref f_law_sum_words) = true)
    {f_law_words : Addr} {od_law_words an_law_words : Option Addr} {sl_law_words : Array (Option Value)} {oc_law_words kV_law_words dc_law_words pm_law_words cd_law_words ct_law_words : Value}
    (a_law_words : PySem.W.nsIn K mainGlobals "_law_words" = some (some (.ref f_law_words))) (l_law_words : K.lookup f_law_words = some ⟨oc_law_words, od_law_words, .func (PySem.W.fnOf "_law_words" "_law_words" (defArgs s_law_words) (defBody s_law_words) (defScope s_law_words) .none kV_law_words dc_law_words pm_law_words an_law_words cd_law_words ct_law_words), sl_law_words⟩) (c_law_words : PySem.W.codeIn K cd_law_words "_law_words" = true) (k_law_words : PySem.W.keepIn K (.ref f_law_words) = true)
    {f_sum_words : Addr} {od_sum_words an_sum_words : Option Addr} {sl_sum_words : Array (Option Value)} {oc_sum_words kV_sum_words dc_sum_words pm_sum_words cd_sum_words ct_sum_words : Value}
    (a_sum_words : PySem.W.nsIn K mainGlobals "sum_words" = some (some (.ref f_sum_words))) (l_sum_words : K.lookup f_sum_words = some ⟨oc_sum_words, od_sum_words, .func (PySem.W.fnOf "sum_words" "sum_words" (defArgs s_sum_words) (defBody s_sum_words) (defScope s_sum_words) .none kV_sum_words dc_sum_words pm_sum_words an_sum_words cd_sum_words ct_sum_words), sl_sum_words⟩) (c_sum_words : PySem.W.codeIn K cd_sum_words "sum_words" = true) (k_sum_words : PySem.W.keepIn K (.ref f_sum_words) = true)
    {f_words_of : Addr} {od_words_of an_words_of : Option Addr} {sl_words_of : Array (Option Value)} {oc_words_of kV_words_of dc_words_of pm_words_of cd_words_of ct_words_of : Value}
    (a_words_of : PySem.W.nsIn K mainGlobals "words_of" = some (some (.ref f_words_of))) (l_words_of : K.lookup f_words_of = some ⟨oc_words_of, od_words_of, .func (PySem.W.fnOf "words_of" "words_of" (defArgs s_words_of) (defBody s_words_of) (defScope s_words_of) .none kV_words_of dc_words_of pm_words_of an_words_of cd_words_of ct_words_of), sl_words_of⟩) (c_words_of : PySem.W.codeIn K cd_words_of "words_of" = true) (k_words_of : PySem.W.keepIn K (.ref f_words_of) = true)
    {f_written : Addr} {od_written an_written : Option Addr} {sl_written : Array (Option Value)} {oc_written kV_written dc_written pm_written cd_written ct_written : Value}
    (a_written : PySem.W.nsIn K mainGlobals "written" = some (some (.ref f_written))) (l_written : K.lookup f_written = some ⟨oc_written, od_written, .func (PySem.W.fnOf "written" "written" (defArgs s_written) (defBody s_written) (defScope s_written) .none kV_written dc_written pm_written an_written cd_written ct_written), sl_written⟩) (c_written : PySem.W.codeIn K cd_written "written" = true) (k_written : PySem.W.keepIn K (.ref f_written) = true)
    {f_word_at : Addr} {od_word_at an_word_at : Option Addr} {sl_word_at : Array (Option Value)} {oc_word_at kV_word_at dc_word_at pm_word_at cd_word_at ct_word_at : Value}
    (a_word_at : PySem.W.nsIn K mainGlobals "word_at" = some (some (.ref f_word_at))) (l_word_at : K.lookup f_word_at = some ⟨oc_word_at, od_word_at, .func (PySem.W.fnOf "word_at" "word_at" (defArgs s_word_at) (defBody s_word_at) (defScope s_word_at) .none kV_word_at dc_word_at pm_word_at an_word_at cd_word_at ct_word_at), sl_word_at⟩) (c_word_at : PySem.W.codeIn K cd_word_at "word_at" = true) (k_word_at : PySem.W.keepIn K (.ref f_word_at) = true)
    {f_number_at : Addr} {od_number_at an_number_at : Option Addr} {sl_number_at : Array (Option Value)} {oc_number_at kV_number_at dc_number_at pm_number_at cd_number_at ct_number_at : Value}
    (a_number_at : PySem.W.nsIn K mainGlobals "number_at" = some (some (.ref f_number_at))) (l_number_at : K.lookup f_number_at = some ⟨oc_number_at, od_number_at, .func (PySem.W.fnOf "number_at" "number_at" (defArgs s_number_at) (defBody s_number_at) (defScope s_number_at) .none kV_number_at dc_number_at pm_number_at an_number_at cd_number_at ct_number_at), sl_number_at⟩) (c_number_at : PySem.W.codeIn K cd_number_at "number_at" = true) (k_number_at : PySem.W.keepIn K (.ref f_number_at) = true)
    {f_name_at : Addr} {od_name_at an_name_at : Option Addr} {sl_name_at : Array (Option Value)} {oc_name_at kV_name_at dc_name_at pm_name_at cd_name_at ct_name_at : Value}
    (a_name_at : PySem.W.nsIn K mainGlobals "name_at" = some (some (.ref f_name_at))) (l_name_at : K.lookup f_name_at = some ⟨oc_name_at, od_name_at, .func (PySem.W.fnOf "name_at" "name_at" (defArgs s_name_at) (defBody s_name_at) (defScope s_name_at) .none kV_name_at dc_name_at pm_name_at an_name_at cd_name_at ct_name_at), sl_name_at⟩) (c_name_at : PySem.W.codeIn K cd_name_at "name_at" = true) (k_name_at : PySem.W.keepIn K (.ref f_name_at) = true)
    {f_sum_at : Addr} {od_sum_at an_sum_at : Option Addr} {sl_sum_at : Array (Option Value)} {oc_sum_at kV_sum_at dc_sum_at pm_sum_at cd_sum_at ct_sum_at : Value}
    (a_sum_at : PySem.W.nsIn K mainGlobals "sum_at" = some (some (.ref f_sum_at))) (l_sum_at : K.lookup f_sum_at = some ⟨oc_sum_at, od_sum_at, .func (PySem.W.fnOf "sum_at" "sum_at" (defArgs s_sum_at) (defBody s_sum_at) (defScope s_sum_at) .none kV_sum_at dc_sum_at pm_sum_at an_sum_at cd_sum_at ct_sum_at), sl_sum_at⟩) (c_sum_at : PySem.W.codeIn K cd_sum_at "sum_at" = true) (k_sum_at : PySem.W.keepIn K (.ref f_sum_at) = true)
    {f_parts_at : Addr} {od_parts_at an_parts_at : Option Addr} {sl_parts_at : Array (Option Value)} {oc_parts_at kV_parts_at dc_parts_at pm_parts_at cd_parts_at ct_parts_at : Value}
    (a_parts_at : PySem.W.nsIn K mainGlobals "parts_at" = some (some (.ref f_parts_at))) (l_parts_at : K.lookup f_parts_at = some ⟨oc_parts_at, od_parts_at, .func (PySem.W.fnOf "parts_at" "parts_at" (defArgs s_parts_at) (defBody s_parts_at) (defScope s_parts_at) .none kV_parts_at dc_parts_at pm_parts_at an_parts_at cd_parts_at ct_parts_at), sl_parts_at⟩) (c_parts_at : PySem.W.codeIn K cd_parts_at "parts_at" = true) (k_parts_at : PySem.W.keepIn K (.ref f_parts_at) = true)
    {f_statement_at : Addr} {od_statement_at an_statement_at : Option Addr} {sl_statement_at : Array (Option Value)} {oc_statement_at kV_statement_at dc_statement_at pm_statement_at cd_statement_at ct_statement_at : Value}
    (a_statement_at : PySem.W.nsIn K mainGlobals "statement_at" = some (some (.ref f_statement_at))) (l_statement_at : K.lookup f_statement_at = some ⟨oc_statement_at, od_statement_at, .func (PySem.W.fnOf "statement_at" "statement_at" (defArgs s_statement_at) (defBody s_statement_at) (defScope s_statement_at) .none kV_statement_at dc_statement_at pm_statement_at an_statement_at cd_statement_at ct_statement_at), sl_statement_at⟩) (c_statement_at : PySem.W.codeIn K cd_statement_at "statement_at" = true) (k_statement_at : PySem.W.keepIn K (.ref f_statement_at) = true)
    {f_read : Addr} {od_read an_read : Option Addr} {sl_read : Array (Option Value)} {oc_read kV_read dc_read pm_read cd_read ct_read : Value}
    (a_read : PySem.W.nsIn K mainGlobals "read" = some (some (.ref f_read))) (l_read : K.lookup f_read = some ⟨oc_read, od_read, .func (PySem.W.fnOf "read" "read" (defArgs s_read) (defBody s_read) (defScope s_read) .none kV_read dc_read pm_read an_read cd_read ct_read), sl_read⟩) (c_read : PySem.W.codeIn K cd_read "read" = true) (k_read : PySem.W.keepIn K (.ref f_read) = true)
    {f_law_word_of : Addr} {od_law_word_of an_law_word_of : Option Addr} {sl_law_word_of : Array (Option Value)} {oc_law_word_of kV_law_word_of dc_law_word_of pm_law_word_of cd_law_word_of ct_law_word_of : Value}
    (a_law_word_of : PySem.W.nsIn K mainGlobals "_law_word_of" = some (some (.ref f_law_word_of))) (l_law_word_of : K.lookup f_law_word_of = some ⟨oc_law_word_of, od_law_word_of, .func (PySem.W.fnOf "_law_word_of" "_law_word_of" (defArgs s_law_word_of) (defBody s_law_word_of) (defScope s_law_word_of) .none kV_law_word_of dc_law_word_of pm_law_word_of an_law_word_of cd_law_word_of ct_law_word_of), sl_law_word_of⟩) (c_law_word_of : PySem.W.codeIn K cd_law_word_of "_law_word_of" = true) (k_law_word_of : PySem.W.keepIn K (.ref f_law_word_of) = true)
    {f_law_read : Addr} {od_law_read an_law_read : Option Addr} {sl_law_read : Array (Option Value)} {oc_law_read kV_law_read dc_law_read pm_law_read cd_law_read ct_law_read : Value}
    (a_law_read : PySem.W.nsIn K mainGlobals "_law_read" = some (some (.ref f_law_read))) (l_law_read : K.lookup f_law_read = some ⟨oc_law_read, od_law_read, .func (PySem.W.fnOf "_law_read" "_law_read" (defArgs s_law_read) (defBody s_law_read) (defScope s_law_read) .none kV_law_read dc_law_read pm_law_read an_law_read cd_law_read ct_law_read), sl_law_read⟩) (c_law_read : PySem.W.codeIn K cd_law_read "_law_read" = true) (k_law_read : PySem.W.keepIn K (.ref f_law_read) = true)
    {f_law_whole : Addr} {od_law_whole an_law_whole : Option Addr} {sl_law_whole : Array (Option Value)} {oc_law_whole kV_law_whole dc_law_whole pm_law_whole cd_law_whole ct_law_whole : Value}
    (a_law_whole : PySem.W.nsIn K mainGlobals "_law_whole" = some (some (.ref f_law_whole))) (l_law_whole : K.lookup f_law_whole = some ⟨oc_law_whole, od_law_whole, .func (PySem.W.fnOf "_law_whole" "_law_whole" (defArgs s_law_whole) (defBody s_law_whole) (defScope s_law_whole) .none kV_law_whole dc_law_whole pm_law_whole an_law_whole cd_law_whole ct_law_whole), sl_law_whole⟩) (c_law_whole : PySem.W.codeIn K cd_law_whole "_law_whole" = true) (k_law_whole : PySem.W.keepIn K (.ref f_law_whole) = true)
    {f_law_alike : Addr} {od_law_alike an_law_alike : Option Addr} {sl_law_alike : Array (Option Value)} {oc_law_alike kV_law_alike dc_law_alike pm_law_alike cd_law_alike ct_law_alike : Value}
    (a_law_alike : PySem.W.nsIn K mainGlobals "_law_alike" = some (some (.ref f_law_alike))) (l_law_alike : K.lookup f_law_alike = some ⟨oc_law_alike, od_law_alike, .func (PySem.W.fnOf "_law_alike" "_law_alike" (defArgs s_law_alike) (defBody s_law_alike) (defScope s_law_alike) .none kV_law_alike dc_law_alike pm_law_alike an_law_alike cd_law_alike ct_law_alike), sl_law_alike⟩) (c_law_alike : PySem.W.codeIn K cd_law_alike "_law_alike" = true) (k_law_alike : PySem.W.keepIn K (.ref f_law_alike) = true)
    {f_law_number : Addr} {od_law_number an_law_number : Option Addr} {sl_law_number : Array (Option Value)} {oc_law_number kV_law_number dc_law_number pm_law_number cd_law_number ct_law_number : Value}
    (a_law_number : PySem.W.nsIn K mainGlobals "_law_number" = some (some (.ref f_law_number))) (l_law_number : K.lookup f_law_number = some ⟨oc_law_number, od_law_number, .func (PySem.W.fnOf "_law_number" "_law_number" (defArgs s_law_number) (defBody s_law_number) (defScope s_law_number) .none kV_law_number dc_law_number pm_law_number an_law_number cd_law_number ct_law_number), sl_law_number⟩) (c_law_number : PySem.W.codeIn K cd_law_number "_law_number" = true) (k_law_number : PySem.W.keepIn K (.ref f_law_number) = true)
    {f_law_is_name : Addr} {od_law_is_name an_law_is_name : Option Addr} {sl_law_is_name : Array (Option Value)} {oc_law_is_name kV_law_is_name dc_law_is_name pm_law_is_name cd_law_is_name ct_law_is_name : Value}
    (a_law_is_name : PySem.W.nsIn K mainGlobals "_law_is_name" = some (some (.ref f_law_is_name))) (l_law_is_name : K.lookup f_law_is_name = some ⟨oc_law_is_name, od_law_is_name, .func (PySem.W.fnOf "_law_is_name" "_law_is_name" (defArgs s_law_is_name) (defBody s_law_is_name) (defScope s_law_is_name) .none kV_law_is_name dc_law_is_name pm_law_is_name an_law_is_name cd_law_is_name ct_law_is_name), sl_law_is_name⟩) (c_law_is_name : PySem.W.codeIn K cd_law_is_name "_law_is_name" = true) (k_law_is_name : PySem.W.keepIn K (.ref f_law_is_name) = true)
    {f_law_sum_along : Addr} {od_law_sum_along an_law_sum_along : Option Addr} {sl_law_sum_along : Array (Option Value)} {oc_law_sum_along kV_law_sum_along dc_law_sum_along pm_law_sum_along cd_law_sum_along ct_law_sum_along : Value}
    (a_law_sum_along : PySem.W.nsIn K mainGlobals "_law_sum_along" = some (some (.ref f_law_sum_along))) (l_law_sum_along : K.lookup f_law_sum_along = some ⟨oc_law_sum_along, od_law_sum_along, .func (PySem.W.fnOf "_law_sum_along" "_law_sum_along" (defArgs s_law_sum_along) (defBody s_law_sum_along) (defScope s_law_sum_along) .none kV_law_sum_along dc_law_sum_along pm_law_sum_along an_law_sum_along cd_law_sum_along ct_law_sum_along), sl_law_sum_along⟩) (c_law_sum_along : PySem.W.codeIn K cd_law_sum_along "_law_sum_along" = true) (k_law_sum_along : PySem.W.keepIn K (.ref f_law_sum_along) = true)
    {f_law_along : Addr} {od_law_along an_law_along : Option Addr} {sl_law_along : Array (Option Value)} {oc_law_along kV_law_along dc_law_along pm_law_along cd_law_along ct_law_along : Value}
    (a_law_along : PySem.W.nsIn K mainGlobals "_law_along" = some (some (.ref f_law_along))) (l_law_along : K.lookup f_law_along = some ⟨oc_law_along, od_law_along, .func (PySem.W.fnOf "_law_along" "_law_along" (defArgs s_law_along) (defBody s_law_along) (defScope s_law_along) .none kV_law_along dc_law_along pm_law_along an_law_along cd_law_along ct_law_along), sl_law_along⟩) (c_law_along : PySem.W.codeIn K cd_law_along "_law_along" = true) (k_law_along : PySem.W.keepIn K (.ref f_law_along) = true)
    {f_law_parts_along : Addr} {od_law_parts_along an_law_parts_along : Option Addr} {sl_law_parts_along : Array (Option Value)} {oc_law_parts_along kV_law_parts_along dc_law_parts_along pm_law_parts_along cd_law_parts_along ct_law_parts_along : Value}
    (a_law_parts_along : PySem.W.nsIn K mainGlobals "_law_parts_along" = some (some (.ref f_law_parts_along))) (l_law_parts_along : K.lookup f_law_parts_along = some ⟨oc_law_parts_along, od_law_parts_along, .func (PySem.W.fnOf "_law_parts_along" "_law_parts_along" (defArgs s_law_parts_along) (defBody s_law_parts_along) (defScope s_law_parts_along) .none kV_law_parts_along dc_law_parts_along pm_law_parts_along an_law_parts_along cd_law_parts_along ct_law_parts_along), sl_law_parts_along⟩) (c_law_parts_along : PySem.W.codeIn K cd_law_parts_along "_law_parts_along" = true) (k_law_parts_along : PySem.W.keepIn K (.ref f_law_parts_along) = true)
    {f_law_is_due : Addr} {od_law_is_due an_law_is_due : Option Addr} {sl_law_is_due : Array (Option Value)} {oc_law_is_due kV_law_is_due dc_law_is_due pm_law_is_due cd_law_is_due ct_law_is_due : Value}
    (a_law_is_due : PySem.W.nsIn K mainGlobals "_law_is_due" = some (some (.ref f_law_is_due))) (l_law_is_due : K.lookup f_law_is_due = some ⟨oc_law_is_due, od_law_is_due, .func (PySem.W.fnOf "_law_is_due" "_law_is_due" (defArgs s_law_is_due) (defBody s_law_is_due) (defScope s_law_is_due) .none kV_law_is_due dc_law_is_due pm_law_is_due an_law_is_due cd_law_is_due ct_law_is_due), sl_law_is_due⟩) (c_law_is_due : PySem.W.codeIn K cd_law_is_due "_law_is_due" = true) (k_law_is_due : PySem.W.keepIn K (.ref f_law_is_due) = true)
    {f_law_changed : Addr} {od_law_changed an_law_changed : Option Addr} {sl_law_changed : Array (Option Value)} {oc_law_changed kV_law_changed dc_law_changed pm_law_changed cd_law_changed ct_law_changed : Value}
    (a_law_changed : PySem.W.nsIn K mainGlobals "_law_changed" = some (some (.ref f_law_changed))) (l_law_changed : K.lookup f_law_changed = some ⟨oc_law_changed, od_law_changed, .func (PySem.W.fnOf "_law_changed" "_law_changed" (defArgs s_law_changed) (defBody s_law_changed) (defScope s_law_changed) .none kV_law_changed dc_law_changed pm_law_changed an_law_changed cd_law_changed ct_law_changed), sl_law_changed⟩) (c_law_changed : PySem.W.codeIn K cd_law_changed "_law_changed" = true) (k_law_changed : PySem.W.keepIn K (.ref f_law_changed) = true)
    {f_law : Addr} {od_law an_law : Option Addr} {sl_law : Array (Option Value)} {oc_law kV_law dc_law pm_law cd_law ct_law : Value}
    (a_law : PySem.W.nsIn K mainGlobals "law" = some (some (.ref f_law))) (l_law : K.lookup f_law = some ⟨oc_law, od_law, .func (PySem.W.fnOf "law" "law" (defArgs s_law) (defBody s_law) (defScope s_law) .none kV_law dc_law pm_law an_law cd_law ct_law), sl_law⟩) (c_law : PySem.W.codeIn K cd_law "law" = true) (k_law : PySem.W.keepIn K (.ref f_law) = true)
    (n_len : PySem.W.nsIn K mainGlobals "len" = some none)
    (n_range : PySem.W.nsIn K mainGlobals "range" = some none)
    (n_sorted : PySem.W.nsIn K mainGlobals "sorted" = some none)
    (n_tuple : PySem.W.nsIn K mainGlobals "tuple" = some none)
    (n_max : PySem.W.nsIn K mainGlobals "max" = some none)
    (n_str : PySem.W.nsIn K mainGlobals "str" = some none)
    (n_int : PySem.W.nsIn K mainGlobals "int" = some none)
    (n_isinstance : PySem.W.nsIn K mainGlobals "isinstance" = some none)
    (n_ValueError : PySem.W.nsIn K mainGlobals "ValueError" = some none)
    (n_bool : PySem.W.nsIn K mainGlobals "bool" = some none)
    (n_list : PySem.W.nsIn K mainGlobals "list" = some none)
    {gk_MOST_FIGURES : Tok}
    (g1_MOST_FIGURES : PySem.W.nsIn K mainGlobals "MOST_FIGURES" = some (some (.int 60 gk_MOST_FIGURES)))
    {gk_LETTERS : Tok}
    (g1_LETTERS : PySem.W.nsIn K mainGlobals "LETTERS" = some (some (.str "abcdefghijklmnopqrstuvwxyz" gk_LETTERS)))
    {gk_MOST_WITHIN : Tok}
    (g1_MOST_WITHIN : PySem.W.nsIn K mainGlobals "MOST_WITHIN" = some (some (.int 40 gk_MOST_WITHIN)))
    {e0 e1 e2 eS : Addr}
    (xn0 : PySem.W.nsIn K mainGlobals "NoValue" = some (some (.ref e0)))
    (xn1 : PySem.W.nsIn K mainGlobals "NotPlain" = some (some (.ref e1)))
    (xn2 : PySem.W.nsIn K mainGlobals "NoNote" = some (some (.ref e2)))
    (xnS : PySem.W.nsIn K mainGlobals "SomeError" = some (some (.ref eS)))
    (xq0 : PySem.W.excIn K e0 [.type "ValueError", .type "Exception", .type "BaseException", .type "object"] "ValueError.__new__" = true)
    (xk0 : PySem.W.keepIn K (.ref e0) = true)
    (xs0 : PySem.W.subIn K (.ref e0) (.type "BaseException") = some true)
    (xt0 : PySem.W.typeIn K (.ref e0) = some (.type "type"))
    (xhg0 : PySem.W.findIn K (.ref e0) "__getattribute__" = some (some (.builtin "BaseException.__getattribute__")))
    (xhk0 : PySem.W.findIn K (.ref e0) "__getattr__" = some none)
    (xhd0 : PySem.W.hasDictIn K e0 = true)
    (xha0 : PySem.W.findIn K (.ref e0) "__class__" = some (some (.builtin "object.__class__")))
    (xhm0 : PySem.W.mroIn K e0 (.type "object") = some true)
    (xv0 : PySem.W.subIn K (.ref e0) (.type "ValueError") = some true)
    (xo0 : PySem.W.subIn K (.ref e0) (.ref eS) = some true)
    (xq1 : PySem.W.excIn K e1 [.type "ValueError", .type "Exception", .type "BaseException", .type "object"] "ValueError.__new__" = true)
    (xk1 : PySem.W.keepIn K (.ref e1) = true)
    (xs1 : PySem.W.subIn K (.ref e1) (.type "BaseException") = some true)
    (xt1 : PySem.W.typeIn K (.ref e1) = some (.type "type"))
    (xhg1 : PySem.W.findIn K (.ref e1) "__getattribute__" = some (some (.builtin "BaseException.__getattribute__")))
    (xhk1 : PySem.W.findIn K (.ref e1) "__getattr__" = some none)
    (xhd1 : PySem.W.hasDictIn K e1 = true)
    (xha1 : PySem.W.findIn K (.ref e1) "__class__" = some (some (.builtin "object.__class__")))
    (xhm1 : PySem.W.mroIn K e1 (.type "object") = some true)
    (xv1 : PySem.W.subIn K (.ref e1) (.type "ValueError") = some true)
    (xo1 : PySem.W.subIn K (.ref e1) (.ref eS) = some true)
    (xq2 : PySem.W.excIn K e2 [.type "ValueError", .type "Exception", .type "BaseException", .type "object"] "ValueError.__new__" = true)
    (xk2 : PySem.W.keepIn K (.ref e2) = true)
    (xs2 : PySem.W.subIn K (.ref e2) (.type "BaseException") = some true)
    (xt2 : PySem.W.typeIn K (.ref e2) = some (.type "type"))
    (xhg2 : PySem.W.findIn K (.ref e2) "__getattribute__" = some (some (.builtin "BaseException.__getattribute__")))
    (xhk2 : PySem.W.findIn K (.ref e2) "__getattr__" = some none)
    (xhd2 : PySem.W.hasDictIn K e2 = true)
    (xha2 : PySem.W.findIn K (.ref e2) "__class__" = some (some (.builtin "object.__class__")))
    (xhm2 : PySem.W.mroIn K e2 (.type "object") = some true)
    (xv2 : PySem.W.subIn K (.ref e2) (.type "ValueError") = some true)
    (xo2 : PySem.W.subIn K (.ref e2) (.ref eS) = some true)
    (xne01 : e0 ≠ e1)
    (xne02 : e0 ≠ e2)
    (xne12 : e1 ≠ e2)
    (xs01 : PySem.W.subIn K (.ref e0) (.ref e1) = some false)
    (xs02 : PySem.W.subIn K (.ref e0) (.ref e2) = some false)
    (xs10 : PySem.W.subIn K (.ref e1) (.ref e0) = some false)
    (xs12 : PySem.W.subIn K (.ref e1) (.ref e2) = some false)
    (xs20 : PySem.W.subIn K (.ref e2) (.ref e0) = some false)
    (xs21 : PySem.W.subIn K (.ref e2) (.ref e1) = some false)
    (xs00 : PySem.W.subIn K (.ref e0) (.ref e0) = some true)
    (xs11 : PySem.W.subIn K (.ref e1) (.ref e1) = some true)
    (xs22 : PySem.W.subIn K (.ref e2) (.ref e2) = some true)
    (xtS : PySem.W.typeIn K (.ref eS) = some (.type "type"))
    (xbS : PySem.W.subIn K (.ref eS) (.type "BaseException") = some true)
    (xdS : PySem.W.hasDictIn K eS = true)
    (xsn : PySem.W.specialIn K (.builtin "object.__class__") "__get__" = some (some (.builtin "getset_descriptor.__get__")))
    (xst : PySem.W.takesIn K (.builtin "object.__class__") = some true) :
    ∃ (C : Nat → Addr) (fd : FuncData), (∀ (s : Shared) (u : Value), BindsTo s fd ⟨[u], []⟩ [("_law_script", u)]) ∧ ∀ base : Heap, K.In base → base.Ns mainGlobals mg → FnOk P w K mg base (L2N.CX P w) 107 fa fd ["_law_script"] (spR K C 1 m_law) := by
  have D_law_cell_at : DefAt K mg "_law_cell_at" s_law_cell_at := def_at KX G a_law_cell_at l_law_cell_at c_law_cell_at k_law_cell_at
  have D_law_names_by : DefAt K mg "_law_names_by" s_law_names_by := def_at KX G a_law_names_by l_law_names_by c_law_names_by k_law_names_by
  have D_law_sum_by : DefAt K mg "_law_sum_by" s_law_sum_by := def_at KX G a_law_sum_by l_law_sum_by c_law_sum_by k_law_sum_by
  have D_law_end_by : DefAt K mg "_law_end_by" s_law_end_by := def_at KX G a_law_end_by l_law_end_by c_law_end_by k_law_end_by
  have D_law_plain_by : DefAt K mg "_law_plain_by" s_law_plain_by := def_at KX G a_law_plain_by l_law_plain_by c_law_plain_by k_law_plain_by
  have D_law_big_by : DefAt K mg "_law_big_by" s_law_big_by := def_at KX G a_law_big_by l_law_big_by c_law_big_by k_law_big_by
  have D_law_bound_by : DefAt K mg "_law_bound_by" s_law_bound_by := def_at KX G a_law_bound_by l_law_bound_by c_law_bound_by k_law_bound_by
  have D_law_within : DefAt K mg "_law_within" s_law_within := def_at KX G a_law_within l_law_within c_law_within k_law_within
  have D_law_sum_words : DefAt K mg "_law_sum_words" s_law_sum_words := def_at KX G a_law_sum_words l_law_sum_words c_law_sum_words k_law_sum_words
  have D_law_words : DefAt K mg "_law_words" s_law_words := def_at KX G a_law_words l_law_words c_law_words k_law_words
  have D_sum_words : DefAt K mg "sum_words" s_sum_words := def_at KX G a_sum_words l_sum_words c_sum_words k_sum_words
  have D_words_of : DefAt K mg "words_of" s_words_of := def_at KX G a_words_of l_words_of c_words_of k_words_of
  have D_written : DefAt K mg "written" s_written := def_at KX G a_written l_written c_written k_written
  have D_word_at : DefAt K mg "word_at" s_word_at := def_at KX G a_word_at l_word_at c_word_at k_word_at
  have D_number_at : DefAt K mg "number_at" s_number_at := def_at KX G a_number_at l_number_at c_number_at k_number_at
  have D_name_at : DefAt K mg "name_at" s_name_at := def_at KX G a_name_at l_name_at c_name_at k_name_at
  have D_sum_at : DefAt K mg "sum_at" s_sum_at := def_at KX G a_sum_at l_sum_at c_sum_at k_sum_at
  have D_parts_at : DefAt K mg "parts_at" s_parts_at := def_at KX G a_parts_at l_parts_at c_parts_at k_parts_at
  have D_statement_at : DefAt K mg "statement_at" s_statement_at := def_at KX G a_statement_at l_statement_at c_statement_at k_statement_at
  have D_read : DefAt K mg "read" s_read := def_at KX G a_read l_read c_read k_read
  have D_law_word_of : DefAt K mg "_law_word_of" s_law_word_of := def_at KX G a_law_word_of l_law_word_of c_law_word_of k_law_word_of
  have D_law_read : DefAt K mg "_law_read" s_law_read := def_at KX G a_law_read l_law_read c_law_read k_law_read
  have D_law_whole : DefAt K mg "_law_whole" s_law_whole := def_at KX G a_law_whole l_law_whole c_law_whole k_law_whole
  have D_law_alike : DefAt K mg "_law_alike" s_law_alike := def_at KX G a_law_alike l_law_alike c_law_alike k_law_alike
  have D_law_number : DefAt K mg "_law_number" s_law_number := def_at KX G a_law_number l_law_number c_law_number k_law_number
  have D_law_is_name : DefAt K mg "_law_is_name" s_law_is_name := def_at KX G a_law_is_name l_law_is_name c_law_is_name k_law_is_name
  have D_law_sum_along : DefAt K mg "_law_sum_along" s_law_sum_along := def_at KX G a_law_sum_along l_law_sum_along c_law_sum_along k_law_sum_along
  have D_law_along : DefAt K mg "_law_along" s_law_along := def_at KX G a_law_along l_law_along c_law_along k_law_along
  have D_law_parts_along : DefAt K mg "_law_parts_along" s_law_parts_along := def_at KX G a_law_parts_along l_law_parts_along c_law_parts_along k_law_parts_along
  have D_law_is_due : DefAt K mg "_law_is_due" s_law_is_due := def_at KX G a_law_is_due l_law_is_due c_law_is_due k_law_is_due
  have D_law_changed : DefAt K mg "_law_changed" s_law_changed := def_at KX G a_law_changed l_law_changed c_law_changed k_law_changed
  have D_law : DefAt K mg "law" s_law := def_at KX G a_law l_law c_law k_law
  have z_len : mg "len" = none := PySem.W.mg_none_of KX G n_len
  have z_range : mg "range" = none := PySem.W.mg_none_of KX G n_range
  have z_sorted : mg "sorted" = none := PySem.W.mg_none_of KX G n_sorted
  have z_tuple : mg "tuple" = none := PySem.W.mg_none_of KX G n_tuple
  have z_max : mg "max" = none := PySem.W.mg_none_of KX G n_max
  have z_str : mg "str" = none := PySem.W.mg_none_of KX G n_str
  have z_int : mg "int" = none := PySem.W.mg_none_of KX G n_int
  have z_isinstance : mg "isinstance" = none := PySem.W.mg_none_of KX G n_isinstance
  have z_ValueError : mg "ValueError" = none := PySem.W.mg_none_of KX G n_ValueError
  have z_bool : mg "bool" = none := PySem.W.mg_none_of KX G n_bool
  have z_list : mg "list" = none := PySem.W.mg_none_of KX G n_list
  have y_MOST_FIGURES : GlobT K mg "MOST_FIGURES" t_MOST_FIGURES := glob_int KX G g1_MOST_FIGURES
  have y_LETTERS : GlobT K mg "LETTERS" t_LETTERS := glob_str KX G g1_LETTERS
  have y_MOST_WITHIN : GlobT K mg "MOST_WITHIN" t_MOST_WITHIN := glob_int KX G g1_MOST_WITHIN
  obtain ⟨W_, x_SomeError, e_NoValue, e_NotPlain, e_NoNote⟩ := excs_of KX G xn0 xn1 xn2 xnS ⟨xq0, xk0, xs0, xt0, xhg0, xhk0, xhd0, xha0, xhm0, xv0, xo0⟩ ⟨xq1, xk1, xs1, xt1, xhg1, xhk1, xhd1, xha1, xhm1, xv1, xo1⟩ ⟨xq2, xk2, xs2, xt2, xhg2, xhk2, xhd2, xha2, xhm2, xv2, xo2⟩ xne01 xne02 xne12 xs01 xs02 xs10 xs12 xs20 xs21 xs00 xs11 xs22 xtS xbS xdS xsn xst
  refine ⟨(cs3 e0 e1 e2), ?_⟩
  refine law_mk (y := "_law_script") (N := ["_law_script", "_law_names", "_law_most", "_law_statement", "_law_great", "_law_k", "_law_words_here", "_law_got", "_law_tail", "_law_note", "_law_cell", "_law_inner", "_law_far", "_law_wraps"]) (g := g_law) D_law hmg sc_law (fun _ _ _ _ _ _ us hl => match us, hl with | [_], _ => rfl) rfl (by decide) fun base kb nb => ?_
  have c_law_cell_at := ok_law_cell_at (P := P) (w := w) (base := base) (C := (cs3 e0 e1 e2)) D_law_cell_at z_len
  have c_law_names_by := ok_law_names_by (P := P) (w := w) (base := base) (C := (cs3 e0 e1 e2)) D_law_names_by z_range
  have c_law_sum_by := ok_law_sum_by (P := P) (w := w) (base := base) (C := (cs3 e0 e1 e2)) D_law_sum_by z_sorted z_tuple
  have c_law_end_by := ok_law_end_by (P := P) (w := w) (base := base) (C := (cs3 e0 e1 e2)) D_law_end_by c_law_sum_by
  have c_law_plain_by := ok_law_plain_by (P := P) (w := w) (base := base) (C := (cs3 e0 e1 e2)) D_law_plain_by c_law_cell_at c_law_end_by z_range
  have c_law_big_by := ok_law_big_by (P := P) (w := w) (base := base) (C := (cs3 e0 e1 e2)) D_law_big_by z_range
  have c_law_bound_by := ok_law_bound_by (P := P) (w := w) (base := base) (C := (cs3 e0 e1 e2)) D_law_bound_by
  have c_law_within := ok_law_within (P := P) (w := w) (base := base) (C := (cs3 e0 e1 e2)) D_law_within z_max 100
  have c_law_sum_words := ok_law_sum_words (P := P) (w := w) (base := base) (C := (cs3 e0 e1 e2)) D_law_sum_words z_str
  have c_law_words := ok_law_words (P := P) (w := w) (base := base) (C := (cs3 e0 e1 e2)) D_law_words c_law_sum_words z_str z_len 100
  have c_sum_words := ok_sum_words (P := P) (w := w) (base := base) (C := (cs3 e0 e1 e2)) D_sum_words z_str
  have c_words_of := ok_words_of (P := P) (w := w) (base := base) (C := (cs3 e0 e1 e2)) D_words_of c_sum_words z_str z_len 100
  have c_written := ok_written (P := P) (w := w) (base := base) (C := (cs3 e0 e1 e2)) D_written c_words_of
  have c_word_at := ok_word_at (P := P) (w := w) (base := base) (C := (cs3 e0 e1 e2)) D_word_at z_len e_NoNote
  have c_number_at := ok_number_at (P := P) (w := w) (base := base) (C := (cs3 e0 e1 e2)) D_number_at c_word_at z_len z_int y_MOST_FIGURES e_NoNote
  have c_name_at := ok_name_at (P := P) (w := w) (base := base) (C := (cs3 e0 e1 e2)) D_name_at c_word_at z_len y_LETTERS e_NoNote
  have c_sum_at := ok_sum_at (P := P) (w := w) (base := base) (C := (cs3 e0 e1 e2)) D_sum_at c_number_at c_word_at c_name_at z_tuple e_NoNote
  have c_parts_at := ok_parts_at (P := P) (w := w) (base := base) (C := (cs3 e0 e1 e2)) D_parts_at D_statement_at c_number_at c_word_at c_sum_at c_name_at z_len z_tuple y_MOST_WITHIN e_NoNote 100
  have c_statement_at := ok_statement_at (P := P) (w := w) (base := base) (C := (cs3 e0 e1 e2)) D_parts_at D_statement_at c_number_at c_word_at c_sum_at c_name_at z_len z_tuple y_MOST_WITHIN e_NoNote 100
  have c_read := ok_read (P := P) (w := w) (base := base) (C := (cs3 e0 e1 e2)) D_read c_statement_at z_len e_NoNote
  have c_law_word_of := ok_law_word_of (P := P) (w := w) (base := base) (C := (cs3 e0 e1 e2)) D_law_word_of W_ z_isinstance z_ValueError
  have c_law_read := ok_law_read (P := P) (w := w) (base := base) (C := (cs3 e0 e1 e2)) D_law_read c_read c_law_word_of x_SomeError
  have c_law_whole := ok_law_whole (P := P) (w := w) (base := base) (C := (cs3 e0 e1 e2)) D_law_whole z_isinstance z_bool z_int
  have c_law_alike := ok_law_alike (P := P) (w := w) (base := base) (C := (cs3 e0 e1 e2)) D_law_alike c_law_whole z_isinstance z_str z_int z_tuple z_list z_len z_range 100
  have c_law_number := ok_law_number (P := P) (w := w) (base := base) (C := (cs3 e0 e1 e2)) D_law_number z_int z_len
  have c_law_is_name := ok_law_is_name (P := P) (w := w) (base := base) (C := (cs3 e0 e1 e2)) D_law_is_name z_len
  have c_law_sum_along := ok_law_sum_along (P := P) (w := w) (base := base) (C := (cs3 e0 e1 e2)) D_law_sum_along c_law_number c_law_is_name z_len z_tuple
  have c_law_along := ok_law_along (P := P) (w := w) (base := base) (C := (cs3 e0 e1 e2)) D_law_parts_along D_law_along c_law_number c_law_sum_along c_law_is_name z_len z_tuple 100
  have c_law_parts_along := ok_law_parts_along (P := P) (w := w) (base := base) (C := (cs3 e0 e1 e2)) D_law_parts_along D_law_along c_law_number c_law_sum_along c_law_is_name z_len z_tuple 100
  have c_law_is_due := ok_law_is_due (P := P) (w := w) (base := base) (C := (cs3 e0 e1 e2)) D_law_is_due c_law_along c_law_read c_law_alike
  have c_law_changed := ok_law_changed (P := P) (w := w) (base := base) (C := (cs3 e0 e1 e2)) D_law_changed z_len z_int z_max
  exact body_law c_law_cell_at c_law_names_by c_law_plain_by c_law_big_by c_law_bound_by c_law_within c_law_words c_written c_law_read c_law_alike c_law_is_due c_law_changed z_range z_isinstance z_str y_MOST_WITHIN
end Pf
open PySem PySem.W PyProof.Rows
set_option maxRecDepth 100000 in
set_option maxHeartbeats 0 in
theorem PySem.Challenge.cw_somenumber_k10_notes_holds : PySem.Challenge.rw_somenumber_k10_notes.Holds := by
  w_on; o_law; k_head; (case hw => w_witness2)
  k_fill
  refine Pf.walk_law (l := PySem.Challenge.rw_somenumber_k10_notes) (k := 107) (m := fun _ => Pf.m_law) (y := "_law_script") rfl rfl ⟨rfl, by decide, by decide⟩ (fun w h Y => PySem.W.kIn_of Y) (fun w => Pf.plain_law) ?F
  case F =>
    intro w mg fa h KX G hmg
    refine' Pf.all_mk KX G hmg ?a_law_cell_at ?l_law_cell_at ?c_law_cell_at ?k_law_cell_at ?a_law_names_by ?l_law_names_by ?c_law_names_by ?k_law_names_by ?a_law_sum_by ?l_law_sum_by ?c_law_sum_by ?k_law_sum_by ?a_law_end_by ?l_law_end_by ?c_law_end_by ?k_law_end_by ?a_law_plain_by ?l_law_plain_by ?c_law_plain_by ?k_law_plain_by ?a_law_big_by ?l_law_big_by ?c_law_big_by ?k_law_big_by ?a_law_bound_by ?l_law_bound_by ?c_law_bound_by ?k_law_bound_by ?a_law_within ?l_law_within ?c_law_within ?k_law_within ?a_law_sum_words ?l_law_sum_words ?c_law_sum_words ?k_law_sum_words ?a_law_words ?l_law_words ?c_law_words ?k_law_words ?a_sum_words ?l_sum_words ?c_sum_words ?k_sum_words ?a_words_of ?l_words_of ?c_words_of ?k_words_of ?a_written ?l_written ?c_written ?k_written ?a_word_at ?l_word_at ?c_word_at ?k_word_at ?a_number_at ?l_number_at ?c_number_at ?k_number_at ?a_name_at ?l_name_at ?c_name_at ?k_name_at ?a_sum_at ?l_sum_at ?c_sum_at ?k_sum_at ?a_parts_at ?l_parts_at ?c_parts_at ?k_parts_at ?a_statement_at ?l_statement_at ?c_statement_at ?k_statement_at ?a_read ?l_read ?c_read ?k_read ?a_law_word_of ?l_law_word_of ?c_law_word_of ?k_law_word_of ?a_law_read ?l_law_read ?c_law_read ?k_law_read ?a_law_whole ?l_law_whole ?c_law_whole ?k_law_whole ?a_law_alike ?l_law_alike ?c_law_alike ?k_law_alike ?a_law_number ?l_law_number ?c_law_number ?k_law_number ?a_law_is_name ?l_law_is_name ?c_law_is_name ?k_law_is_name ?a_law_sum_along ?l_law_sum_along ?c_law_sum_along ?k_law_sum_along ?a_law_along ?l_law_along ?c_law_along ?k_law_along ?a_law_parts_along ?l_law_parts_along ?c_law_parts_along ?k_law_parts_along ?a_law_is_due ?l_law_is_due ?c_law_is_due ?k_law_is_due ?a_law_changed ?l_law_changed ?c_law_changed ?k_law_changed ?a_law ?l_law ?c_law ?k_law ?n_len ?n_range ?n_sorted ?n_tuple ?n_max ?n_str ?n_int ?n_isinstance ?n_ValueError ?n_bool ?n_list ?g1_MOST_FIGURES ?g1_LETTERS ?g1_MOST_WITHIN ?xn0 ?xn1 ?xn2 ?xnS ?xq0 ?xk0 ?xs0 ?xt0 ?xhg0 ?xhk0 ?xhd0 ?xha0 ?xhm0 ?xv0 ?xo0 ?xq1 ?xk1 ?xs1 ?xt1 ?xhg1 ?xhk1 ?xhd1 ?xha1 ?xhm1 ?xv1 ?xo1 ?xq2 ?xk2 ?xs2 ?xt2 ?xhg2 ?xhk2 ?xhd2 ?xha2 ?xhm2 ?xv2 ?xo2 ?xne01 ?xne02 ?xne12 ?xs01 ?xs02 ?xs10 ?xs12 ?xs20 ?xs21 ?xs00 ?xs11 ?xs22 ?xtS ?xbS ?xdS ?xsn ?xst
    (case a_law_cell_at => k_is)
    (case l_law_cell_at => k_is)
    (case c_law_cell_at => k_is)
    (case k_law_cell_at => k_is)
    (case a_law_names_by => k_is)
    (case l_law_names_by => k_is)
    (case c_law_names_by => k_is)
    (case k_law_names_by => k_is)
    (case a_law_sum_by => k_is)
    (case l_law_sum_by => k_is)
    (case c_law_sum_by => k_is)
    (case k_law_sum_by => k_is)
    (case a_law_end_by => k_is)
    (case l_law_end_by => k_is)
    (case c_law_end_by => k_is)
    (case k_law_end_by => k_is)
    (case a_law_plain_by => k_is)
    (case l_law_plain_by => k_is)
    (case c_law_plain_by => k_is)
    (case k_law_plain_by => k_is)
    (case a_law_big_by => k_is)
    (case l_law_big_by => k_is)
    (case c_law_big_by => k_is)
    (case k_law_big_by => k_is)
    (case a_law_bound_by => k_is)
    (case l_law_bound_by => k_is)
    (case c_law_bound_by => k_is)
    (case k_law_bound_by => k_is)
    (case a_law_within => k_is)
    (case l_law_within => k_is)
    (case c_law_within => k_is)
    (case k_law_within => k_is)
    (case a_law_sum_words => k_is)
    (case l_law_sum_words => k_is)
    (case c_law_sum_words => k_is)
    (case k_law_sum_words => k_is)
    (case a_law_words => k_is)
    (case l_law_words => k_is)
    (case c_law_words => k_is)
    (case k_law_words => k_is)
    (case a_sum_words => k_is)
    (case l_sum_words => k_is)
    (case c_sum_words => k_is)
    (case k_sum_words => k_is)
    (case a_words_of => k_is)
    (case l_words_of => k_is)
    (case c_words_of => k_is)
    (case k_words_of => k_is)
    (case a_written => k_is)
    (case l_written => k_is)
    (case c_written => k_is)
    (case k_written => k_is)
    (case a_word_at => k_is)
    (case l_word_at => k_is)
    (case c_word_at => k_is)
    (case k_word_at => k_is)
    (case a_number_at => k_is)
    (case l_number_at => k_is)
    (case c_number_at => k_is)
    (case k_number_at => k_is)
    (case a_name_at => k_is)
    (case l_name_at => k_is)
    (case c_name_at => k_is)
    (case k_name_at => k_is)
    (case a_sum_at => k_is)
    (case l_sum_at => k_is)
    (case c_sum_at => k_is)
    (case k_sum_at => k_is)
    (case a_parts_at => k_is)
    (case l_parts_at => k_is)
    (case c_parts_at => k_is)
    (case k_parts_at => k_is)
    (case a_statement_at => k_is)
    (case l_statement_at => k_is)
    (case c_statement_at => k_is)
    (case k_statement_at => k_is)
    (case a_read => k_is)
    (case l_read => k_is)
    (case c_read => k_is)
    (case k_read => k_is)
    (case a_law_word_of => k_is)
    (case l_law_word_of => k_is)
    (case c_law_word_of => k_is)
    (case k_law_word_of => k_is)
    (case a_law_read => k_is)
    (case l_law_read => k_is)
    (case c_law_read => k_is)
    (case k_law_read => k_is)
    (case a_law_whole => k_is)
    (case l_law_whole => k_is)
    (case c_law_whole => k_is)
    (case k_law_whole => k_is)
    (case a_law_alike => k_is)
    (case l_law_alike => k_is)
    (case c_law_alike => k_is)
    (case k_law_alike => k_is)
    (case a_law_number => k_is)
    (case l_law_number => k_is)
    (case c_law_number => k_is)
    (case k_law_number => k_is)
    (case a_law_is_name => k_is)
    (case l_law_is_name => k_is)
    (case c_law_is_name => k_is)
    (case k_law_is_name => k_is)
    (case a_law_sum_along => k_is)
    (case l_law_sum_along => k_is)
    (case c_law_sum_along => k_is)
    (case k_law_sum_along => k_is)
    (case a_law_along => k_is)
    (case l_law_along => k_is)
    (case c_law_along => k_is)
    (case k_law_along => k_is)
    (case a_law_parts_along => k_is)
    (case l_law_parts_along => k_is)
    (case c_law_parts_along => k_is)
    (case k_law_parts_along => k_is)
    (case a_law_is_due => k_is)
    (case l_law_is_due => k_is)
    (case c_law_is_due => k_is)
    (case k_law_is_due => k_is)
    (case a_law_changed => k_is)
    (case l_law_changed => k_is)
    (case c_law_changed => k_is)
    (case k_law_changed => k_is)
    (case a_law => k_is)
    (case l_law => k_is)
    (case c_law => k_is)
    (case k_law => k_is)
    (case n_len => k_is)
    (case n_range => k_is)
    (case n_sorted => k_is)
    (case n_tuple => k_is)
    (case n_max => k_is)
    (case n_str => k_is)
    (case n_int => k_is)
    (case n_isinstance => k_is)
    (case n_ValueError => k_is)
    (case n_bool => k_is)
    (case n_list => k_is)
    (case g1_MOST_FIGURES => k_is)
    (case g1_LETTERS => k_is)
    (case g1_MOST_WITHIN => k_is)
    (case xn0 => k_is)
    (case xn1 => k_is)
    (case xn2 => k_is)
    (case xnS => k_is)
    (case xq0 => k_exc)
    (case xk0 => k_is)
    (case xs0 => k_is)
    (case xt0 => k_is)
    (case xhg0 => k_is)
    (case xhk0 => k_is)
    (case xhd0 => k_is)
    (case xha0 => k_is)
    (case xhm0 => k_is)
    (case xv0 => k_is)
    (case xo0 => k_is)
    (case xq1 => k_exc)
    (case xk1 => k_is)
    (case xs1 => k_is)
    (case xt1 => k_is)
    (case xhg1 => k_is)
    (case xhk1 => k_is)
    (case xhd1 => k_is)
    (case xha1 => k_is)
    (case xhm1 => k_is)
    (case xv1 => k_is)
    (case xo1 => k_is)
    (case xq2 => k_exc)
    (case xk2 => k_is)
    (case xs2 => k_is)
    (case xt2 => k_is)
    (case xhg2 => k_is)
    (case xhk2 => k_is)
    (case xhd2 => k_is)
    (case xha2 => k_is)
    (case xhm2 => k_is)
    (case xv2 => k_is)
    (case xo2 => k_is)
    (case xne01 => decide)
    (case xne02 => decide)
    (case xne12 => decide)
    (case xs01 => k_is)
    (case xs02 => k_is)
    (case xs10 => k_is)
    (case xs12 => k_is)
    (case xs20 => k_is)
    (case xs21 => k_is)
    (case xs00 => k_is)
    (case xs11 => k_is)
    (case xs22 => k_is)
    (case xtS => k_is)
    (case xbS => k_is)
    (case xdS => k_is)
    (case xsn => k_is)
    (case xst => k_is)

