import PyProof.Rows.All
import Wide.All
import OpenK.AllK
import Wide.FinOn
import HandS.ForMost
import HandS.ForExc
import HandS.ExcOwn
import HandS.TryOnly
import HandS.ExcInit
import KE.KExcIs
import HandS.IsInst
import HandS.TupAny
import HandS.TupMul
import HandS.Wide
import HandS.Style
import HandS.Conv
import HandS.Deep
import HandS.Walk
import HandS.Flow
import HandS.SetKeys
import HandS.DictComp
import HandS.Iter
import KE.KDictKeyed
import KE.DataMinMax
import PyProof.StrBlock2
import HandS.Zip
import KE.GoesEnum
import HandS.HeadHook1
import KE.GoesMore
import HandS.FStrTup
import PyProof.ReprNest
import PyProof.ReprRoads
import HandS.More
import HandS.RaiseMore
import PyProof.ReprBulk
import PyProof.CallFns
import HandS.TupLen
import HandS.WordsDict
import KE.KDictList
import HandS.Sort
import KE.SortData
import HandS.ExcValue
import HandS.Defaults
import HandS.Head0
import HandS.Head1
import HandS.Head2
import HandS.HeadEnd
import HandS.HeadHook2
import HandS.HeadHook3
import PySem.Challenge.RW_leastdeeds_k08_refusals_apart
set_option Elab.async false
set_option linter.all false
set_option maxRecDepth 100000
set_option maxHeartbeats 4000000
namespace DL
open PySem PySem.Spec PyProof.Rows L2
/-! ### data -/
inductive D where
  | non | bl (b : Bool) | int (i : Int) | str (x : Str) | tup (ds : List D) | frz (ds : List D) | scr (ds : List D) | ref (a : Addr) | exc (nm : Str) (fs : List (Str × Int))
/-- what stands at an address: a list, an instance, a dict whose keys are numbers and texts, one whose keys are nested tuples -/
inductive DO where
  | lst (ds : List D)
  | ins (c : Str) (fs : List (Str × D))
  | dK (kvs : List (L2.Key × D))
  | dN (ep : Nat) (kvs : List (NestedKey × D))
/-! keys of dicts: nested tuples of numbers -/
mutual
def ofNk : NestedKey → D
  | .none => .non
  | .num i => .int i
  | .text x => .str x
  | .tup ks => .tup (ofNks ks)
def ofNks : List NestedKey → List D
  | [] => []
  | k :: ks => ofNk k :: ofNks ks
end
mutual
/-- a key's hash, where no text stands in it -/
def hashN : NestedKey → Int
  | .none => reduceHash 0xFCA86420
  | .num i => hashInt i
  | .text _ => 0
  | .tup ks => reduceHash (Builtin.Tuple.tupleHashOf (hashNs ks))
def hashNs : List NestedKey → List Int
  | [] => []
  | k :: ks => hashN k :: hashNs ks
end
mutual
def noTx : NestedKey → Bool
  | .none => true
  | .num _ => true
  | .text _ => false
  | .tup ks => noTxs ks
def noTxs : List NestedKey → Bool
  | [] => true
  | k :: ks => noTx k && noTxs ks
end
mutual
theorem hashN_eq (w : World) : ∀ k : NestedKey, noTx k = true → k.hash w = hashN k
  | .none, _ => by simp only [NestedKey.hash, hashN]
  | .num i, _ => by simp only [NestedKey.hash, hashN]
  | .text x, h => by simp only [noTx] at h; cases h
  | .tup ks, h => by
    simp only [noTx] at h
    simp only [NestedKey.hash, hashN]
    rw [hashNs_eq w ks h]
theorem hashNs_eq (w : World) : ∀ ks : List NestedKey, noTxs ks = true → NestedKey.hashes w ks = hashNs ks
  | [], _ => by simp only [NestedKey.hashes, hashNs]
  | k :: ks, h => by
    simp only [noTxs, Bool.and_eq_true] at h
    simp only [NestedKey.hashes, hashNs]
    rw [hashN_eq w k h.1, hashNs_eq w ks h.2]
end
def isTupK : NestedKey → Bool
  | .tup _ => true
  | _ => false
/-- a key that is served: a tuple without texts, not too deep -/
def kOk (k : NestedKey) : Bool := isTupK k && (noTx k && decide (k.depth ≤ 8))
def dnE (x : NestedKey × Addr × Value) : DictEntry := ⟨hashN x.1, .ref x.2.1, x.2.2⟩
/-- a dict with such keys, in the kit's layer -/
def dnO (a : Addr) (ep : Nat) (xs : List (NestedKey × Addr × Value)) : HO := .ext fun h => (a == sysModules) = false ∧ ∃ o es, h.get? a = some o ∧ o.ExactDict ∧ o.data = .dict es ep ∧ es.toList = xs.map dnE
abbrev DH := Addr → Option DO
def up (h : DH) (a : Addr) (o : DO) : DH := fun b => if b = a then some o else h b
theorem up_same {h : DH} {a : Addr} {o : DO} : up h a o a = some o := by unfold up; rw [if_pos rfl]
theorem up_ne {h : DH} {a b : Addr} {o : DO} (n : b ≠ a) : up h a o b = h b := by unfold up; rw [if_neg n]
abbrev DEnv := List (Option D)
abbrev DK := D → DH → Prop
abbrev DTE := DEnv → DH → DK → Prop
abbrev DTT := DEnv → DH → (Bool → DH → Prop) → Prop
abbrev DTA := DEnv → DH → (List D → DH → Prop) → Prop
abbrev DX := Str → List (Str × Int) → DH → Prop
/-- .. with the slots -/
abbrev DXE := DEnv → DX
structure DEnds where
  nx : DEnv → DH → Prop
  rt : DK
  bk : DEnv → DH → Prop := fun _ _ => False
  ct : DEnv → DH → Prop := fun _ _ => False
abbrev DTS := DEnds → DEnv → DH → Prop
/-! ### how data stands in the layer's heap -/
section
variable (K : PySem.W.Frag) (mg : Str → Option Value)
/-- a list that is a value: nobody writes it any more -/
def SqF (H : Hp) (a : Addr) (xs : List V) : Prop := ∃ o, H a = some (.frz o (.lst xs))
/-- the script -/
def SqS (H : Hp) (a : Addr) (xs : List V) : Prop := (∃ o, H a = some (.frz o (.lst xs))) ∨
    ∃ (o : Obj) (its : Array Value) (n : Nat), K.lookup a = some o ∧ o.cls = .type "list" ∧ o.dict = none ∧ o.data = .seq its n ∧ its.size ≤ sizeLine ∧ Vals xs its.toList
/-- all tuples are kept, the lists that are read alone, the exceptions that were caught, their dicts -/
structure TK (H H' : Hp) : Prop where
  t : ∀ a xs, SqT K H a xs → SqT K H' a xs
  f : ∀ a xs, SqF H a xs → SqF H' a xs
  z : ∀ a o u, H a = some (.frz o u) → H' a = some (.frz o u)
  x : ∀ a fs, H a = some (.xd fs) → H' a = some (.xd fs)
/-- an exception's own fields -/
def XF (H : Hp) (dx : Option Addr) (fs : List (Str × Int)) : Prop := (dx = none ∧ fs = []) ∨ ∃ a, dx = some a ∧ H a = some (.xd (fs.map fun p => (p.1, .int p.2)))
/-- a caught exception of the class named nm -/
def XcAt (H : Hp) (nm : Str) (fs : List (Str × Int)) (a : Addr) : Prop := ∃ (oe : Obj) (vs : Array Value) (C : Addr), H a = some (.frz oe (.own a)) ∧ PySem.W.nsIn K mainGlobals nm = some (some (.ref C)) ∧ oe.cls = .ref C ∧ oe.data = .fields vs ∧ XF H oe.dict fs
mutual
def Rp (H : Hp) : D → V → Prop
  | .non, v => v = .non
  | .bl b, v => v = .bl b
  | .int i, v => v = .int i
  | .str x, v => v = .str x
  | .tup ds, v => ∃ a vs, v = .ref a ∧ SqT K H a vs ∧ RpL H ds vs
  | .frz ds, v => ∃ a vs, v = .ref a ∧ SqF H a vs ∧ RpL H ds vs
  | .scr ds, v => ∃ a vs, v = .ref a ∧ SqS K H a vs ∧ RpL H ds vs
  | .ref a, v => v = .ref a
  | .exc nm fs, v => ∃ a, v = .ref a ∧ XcAt K H nm fs a
def RpL (H : Hp) : List D → List V → Prop
  | [], vs => vs = []
  | d :: ds, vs => ∃ v r, vs = v :: r ∧ Rp H d v ∧ RpL H ds r
end
/-- fields by name -/
def RpF (H : Hp) : List (Str × D) → List (Str × V) → Prop
  | [], fs => fs = []
  | p :: ps, fs => ∃ v r, fs = (p.1, v) :: r ∧ Rp K H p.2 v ∧ RpF H ps r
/-- values by keys -/
def RpK (H : Hp) : List (L2.Key × D) → List (L2.Key × V) → Prop
  | [], vs => vs = []
  | p :: ps, vs => ∃ v r, vs = (p.1, v) :: r ∧ Rp K H p.2 v ∧ RpK H ps r
def RpN (H : Hp) : List (NestedKey × D) → List (NestedKey × Addr × Value) → Prop
  | [], xs => xs = []
  | p :: ps, xs => ∃ b v u r, xs = (p.1, b, u) :: r ∧ Rp K H (ofNk p.1) (.ref b) ∧ RelV v u ∧ Rp K H p.2 v ∧ RpN H ps r
def ORep (H : Hp) (a : Addr) : DO → Prop
  | .dK kvs => ∃ vs, H a = some (.dK vs) ∧ RpK K H kvs vs
  | .dN ep kvs => ∃ xs, H a = some (dnO a ep xs) ∧ RpN K H kvs xs ∧ kvs.length ≤ sizeLine ∧ (kvs.map (·.1)).Nodup ∧ ∀ p ∈ kvs, kOk p.1 = true
  | .lst ds => ∃ vs, H a = some (.lst vs) ∧ RpL K H ds vs
  | .ins c fs => ∃ C dx fvs, mg c = some (.ref C) ∧ H a = some (.ins C dx fvs) ∧ RpF K H fs fvs
def HR (H : Hp) (h : DH) : Prop := ∀ a o, h a = some o → ORep K mg H a o
def ER (H : Hp) (env : DEnv) (σ : L2.St) : Prop := env.length = σ.length ∧ ∀ (i : Nat) d, env[i]? = some (some d) → ∃ v, σ[i]? = some (some v) ∧ Rp K H d v
end
section
variable {K : PySem.W.Frag} {mg : Str → Option Value} {H H1 H2 H' : Hp} {h h' : DH} {a p : Addr} {o : DO}
theorem SqF.seq {xs : List V} (q : SqF H a xs) : SqL K H a xs := .inl (.inr q)
theorem SqS.seq {xs : List V} (q : SqS K H a xs) : SqL K H a xs := by
  rcases q with ⟨o, q⟩ | q
  · exact .inl (.inr ⟨o, q⟩)
  · exact .inr q
theorem TK.s (k : TK K H H') {xs : List V} (q : SqS K H a xs) : SqS K H' a xs := by
  rcases q with ⟨o, q⟩ | q
  · exact .inl ⟨o, k.z _ _ _ q⟩
  · exact .inr q
theorem TK.refl : TK K H H := ⟨fun _ _ q => q, fun _ _ q => q, fun _ _ _ q => q, fun _ _ q => q⟩
theorem TK.trans (x : TK K H H1) (y : TK K H1 H2) : TK K H H2 := ⟨fun a xs q => y.1 a xs (x.1 a xs q), fun a xs q => y.2 a xs (x.2 a xs q), fun a o u q => y.3 a o u (x.3 a o u q), fun a fs q => y.4 a fs (x.4 a fs q)⟩
theorem XF.mono (k : TK K H H') {dx : Option Addr} {fs : List (Str × Int)} (x : XF H dx fs) : XF H' dx fs := by
  rcases x with x | ⟨a, e, q⟩
  · exact .inl x
  · exact .inr ⟨a, e, k.x _ _ q⟩
theorem XcAt.mono (k : TK K H H') {nm : Str} {fs : List (Str × Int)} (x : XcAt K H nm fs a) : XcAt K H' nm fs a := by
  obtain ⟨oe, vs, C, e1, e2, e3, e4, e5⟩ := x
  exact ⟨oe, vs, C, k.z _ _ _ e1, e2, e3, e4, e5.mono k⟩
theorem TK.of {o : HO} (n : ∀ u, H p = some u → Mut (some u)) : TK K H (upd H p o) := by
  have key : ∀ {a u}, H a = some u → ¬ Mut (some u) → upd H p o a = some u := fun {a u} q nm => by
    have ne : a ≠ p := fun e => by rw [e] at q; exact nm (n _ q)
    rw [upd_ne ne]; exact q
  refine ⟨fun a xs q => ?_, fun a xs q => ?_, fun a o u q => key q fun z => z, fun a fs q => key q fun z => z⟩
  · rcases q with (q | ⟨ob, q⟩) | q
    · exact .inl (.inl (key q fun z => z))
    · exact .inl (.inr ⟨ob, key q fun z => z⟩)
    · exact .inr q
  · obtain ⟨ob, q⟩ := q
    exact ⟨ob, key q fun z => z⟩
theorem TK.new {o : HO} (n : H p = none) : TK K H (upd H p o) := TK.of fun u e => by rw [n] at e; cases e
theorem TK.mut {o : HO} (m : Mut (H p)) : TK K H (upd H p o) := TK.of fun u e => by rw [e] at m; exact m
mutual
theorem Rp.monoT (k : TK K H H') : ∀ (d : D) (v : V), Rp K H d v → Rp K H' d v
  | .non, v, r => r
  | .bl b, v, r => r
  | .int i, v, r => r
  | .str x, v, r => r
  | .tup ds, v, r => by
    unfold Rp at r ⊢
    obtain ⟨a, vs, e, q, l⟩ := r
    exact ⟨a, vs, e, k.1 _ _ q, RpL.monoT k ds vs l⟩
  | .frz ds, v, r => by
    unfold Rp at r ⊢
    obtain ⟨a, vs, e, q, l⟩ := r
    exact ⟨a, vs, e, k.2 _ _ q, RpL.monoT k ds vs l⟩
  | .scr ds, v, r => by
    unfold Rp at r ⊢
    obtain ⟨a, vs, e, q, l⟩ := r
    exact ⟨a, vs, e, k.s q, RpL.monoT k ds vs l⟩
  | .ref a, v, r => r
  | .exc nm fs, v, r => by
    unfold Rp at r ⊢
    obtain ⟨a, e, q⟩ := r
    exact ⟨a, e, q.mono k⟩
theorem RpL.monoT (k : TK K H H') : ∀ (ds : List D) (vs : List V), RpL K H ds vs → RpL K H' ds vs
  | [], vs, r => r
  | d :: ds, vs, r => by
    unfold RpL at r ⊢
    obtain ⟨v, t, e, q, l⟩ := r
    exact ⟨v, t, e, Rp.monoT k d v q, RpL.monoT k ds t l⟩
end
theorem RpF.monoT (k : TK K H H') : ∀ (ds : List (Str × D)) (vs : List (Str × V)), RpF K H ds vs → RpF K H' ds vs
  | [], vs, r => r
  | d :: ds, vs, r => by
    unfold RpF at r ⊢
    obtain ⟨v, t, e, q, l⟩ := r
    exact ⟨v, t, e, Rp.monoT k _ v q, RpF.monoT k ds t l⟩
theorem RpK.monoT (k : TK K H H') : ∀ (ds : List (L2.Key × D)) (vs : List (L2.Key × V)), RpK K H ds vs → RpK K H' ds vs
  | [], vs, r => r
  | d :: ds, vs, r => by
    unfold RpK at r ⊢
    obtain ⟨v, t, e, q, l⟩ := r
    exact ⟨v, t, e, Rp.monoT k _ v q, RpK.monoT k ds t l⟩
theorem RpN.monoT (k : TK K H H') : ∀ (ds : List (NestedKey × D)) (vs : List (NestedKey × Addr × Value)), RpN K H ds vs → RpN K H' ds vs
  | [], vs, r => r
  | d :: ds, vs, r => by
    unfold RpN at r ⊢
    obtain ⟨b, v, u, t, e, q0, q1, q, l⟩ := r
    exact ⟨b, v, u, t, e, Rp.monoT k _ _ q0, q1, Rp.monoT k _ v q, RpN.monoT k ds t l⟩
theorem ORep.monoT (k : TK K H H') (s : ∀ u, H a = some u → H' a = some u) (r : ORep K mg H a o) : ORep K mg H' a o := by
  cases o with
  | lst ds => obtain ⟨vs, e, l⟩ := r; exact ⟨vs, s _ e, RpL.monoT k _ _ l⟩
  | dK kvs => obtain ⟨vs, e, l⟩ := r; exact ⟨vs, s _ e, RpK.monoT k _ _ l⟩
  | dN ep kvs => obtain ⟨xs, e, l, r⟩ := r; exact ⟨xs, s _ e, RpN.monoT k _ _ l, r⟩
  | ins c fs => obtain ⟨C, dx, fvs, e1, e, l⟩ := r; exact ⟨C, dx, fvs, e1, s _ e, RpF.monoT k _ _ l⟩
theorem ER.monoT {env : DEnv} {σ : L2.St} (k : TK K H H') (r : ER K H env σ) : ER K H' env σ := ⟨r.1, fun i d e => let ⟨v, q, x⟩ := r.2 i d e; ⟨v, q, Rp.monoT k _ _ x⟩⟩
theorem ER.set {env : DEnv} {σ : L2.St} {d : D} {v : V} (r : ER K H env σ) (i : Nat) (q : Rp K H d v) : ER K H (env.set i (some d)) (σ.set i (some v)) := by
  refine ⟨by rw [List.length_set, List.length_set]; exact r.1, fun j e he => ?_⟩
  by_cases hj : j = i
  · subst hj
    have hl : j < env.length := by
      have := (List.getElem?_eq_some_iff.mp he).1
      rw [List.length_set] at this
      exact this
    rw [List.getElem?_set_self hl] at he
    cases he
    exact ⟨v, List.getElem?_set_self (by rw [← r.1]; exact hl), q⟩
  · rw [List.getElem?_set_ne (Ne.symm hj)] at he
    obtain ⟨w, e1, e2⟩ := r.2 j e he
    exact ⟨w, by rw [List.getElem?_set_ne (Ne.symm hj)]; exact e1, e2⟩
/-- a new object that is tracked -/
theorem HR.new {u : HO} (r : HR K mg H h) (n : H p = none) (q : ORep K mg (upd H p u) p o) : HR K mg (upd H p u) (up h p o) := fun b ob e => by
  by_cases hb : b = p
  · subst hb; rw [up_same] at e; cases e; exact q
  · rw [up_ne hb] at e
    refine (r b ob e).monoT (TK.new n) fun u' q' => ?_
    rw [upd_ne hb]; exact q'
/-- a new object of the layer's heap that is not told here -/
theorem HR.under {u : HO} (r : HR K mg H h) (n : H p = none) : HR K mg (upd H p u) h := fun b ob e => (r b ob e).monoT (TK.new n) fun u' q' => by
  rw [upd_ne (ne_of_none q' n)]; exact q'
theorem HR.free (r : HR K mg H h) (n : H p = none) : h p = none := by
  cases e : h p with
  | none => rfl
  | some o =>
    have z := r p o e
    cases o with
    | lst ds => obtain ⟨vs, e2, _⟩ := z; rw [n] at e2; cases e2
    | dK kvs => obtain ⟨vs, e2, _⟩ := z; rw [n] at e2; cases e2
    | dN ep kvs => obtain ⟨xs, e2, _⟩ := z; rw [n] at e2; cases e2
    | ins c fs => obtain ⟨C, dx, fvs, _, e2, _⟩ := z; rw [n] at e2; cases e2
/-- an object changed -/
theorem HR.write {u : HO} (r : HR K mg H h) (m : Mut (H p)) (q : ORep K mg (upd H p u) p o) : HR K mg (upd H p u) (up h p o) := fun b ob e => by
  by_cases hb : b = p
  · subst hb; rw [up_same] at e; cases e; exact q
  · rw [up_ne hb] at e
    refine (r b ob e).monoT (TK.mut m) fun u' q' => ?_
    rw [upd_ne hb]; exact q'
theorem HR.lst {ds : List D} (r : HR K mg H h) (e : h a = some (.lst ds)) : ∃ vs, H a = some (.lst vs) ∧ RpL K H ds vs := r a _ e
end
/-- from one moment to a later one: the tuples are kept, and what is not told in the data's heap -/
structure Gr (K : PySem.W.Frag) (H : Hp) (h : DH) (H' : Hp) (h' : DH) : Prop where
  tk : TK K H H'
  fr : ∀ b u, H b = some u → h b = none → H' b = some u ∧ h' b = none
section
variable {K : PySem.W.Frag} {mg : Str → Option Value} {H H1 H2 H' : Hp} {h h1 h2 h' : DH} {a p : Addr} {o : DO}
theorem Gr.refl : Gr K H h H h := ⟨TK.refl, fun _ _ a b => ⟨a, b⟩⟩
theorem Gr.trans (x : Gr K H h H1 h1) (y : Gr K H1 h1 H2 h2) : Gr K H h H2 h2 := ⟨x.tk.trans y.tk, fun b u e n => let ⟨e1, n1⟩ := x.fr b u e n; y.fr b u e1 n1⟩
/-- a new object that is not told -/
theorem Gr.under {u : HO} (n : H p = none) : Gr K H h (upd H p u) h := ⟨TK.new n, fun b w e q => ⟨by rw [upd_ne (ne_of_none e n)]; exact e, q⟩⟩
/-- a new object that is told -/
theorem Gr.new {u : HO} (n : H p = none) : Gr K H h (upd H p u) (up h p o) := ⟨TK.new n, fun b w e q => ⟨by rw [upd_ne (ne_of_none e n)]; exact e, by rw [up_ne (ne_of_none e n)]; exact q⟩⟩
/-- a told object written -/
theorem Gr.write {u : HO} {o' : DO} (m : Mut (H p)) (e : h p = some o') : Gr K H h (upd H p u) (up h p o) := ⟨TK.mut m, fun b w q n => by
  have ne : b ≠ p := fun z => by rw [z, e] at n; cases n
  exact ⟨by rw [upd_ne ne]; exact q, by rw [up_ne ne]; exact n⟩⟩
theorem Gr.less (x : Gr K H h H1 h1) (s : ∀ a o, h2 a = some o → h1 a = some o) : Gr K H h H1 h2 := ⟨x.tk, fun b u e n => by
  obtain ⟨e1, n1⟩ := x.fr b u e n
  refine ⟨e1, ?_⟩
  cases q : h2 b with
  | none => rfl
  | some w => rw [s b w q] at n1; cases n1⟩
theorem Rp.mono (k : Gr K H h H' h') (d : D) (v : V) (r : Rp K H d v) : Rp K H' d v := Rp.monoT k.tk d v r
theorem RpL.mono (k : Gr K H h H' h') (d : List D) (v : List V) (r : RpL K H d v) : RpL K H' d v := RpL.monoT k.tk d v r
theorem ER.mono {env : DEnv} {σ : L2.St} (k : Gr K H h H' h') (r : ER K H env σ) : ER K H' env σ := r.monoT k.tk
end
/-- from where an exception is looked at -/
def anc (K : PySem.W.Frag) : Option (Hp × DH) → Hp → DH → Prop
  | none, _, _ => True
  | some x, H, h => Gr K x.1 x.2 H h
theorem anc.on {K : PySem.W.Frag} {G : Option (Hp × DH)} {H H' : Hp} {h h' : DH} (g : anc K G H h) (k : Gr K H h H' h') : anc K G H' h' := by
  cases G with
  | none => trivial
  | some x => exact Gr.trans g k
/-! lists of data -/
section
variable {K : PySem.W.Frag} {H : Hp}
theorem RpL.nil : RpL K H [] [] := by unfold RpL; rfl
theorem RpL.cons {d : D} {v : V} {ds : List D} {vs : List V} (a : Rp K H d v) (b : RpL K H ds vs) : RpL K H (d :: ds) (v :: vs) := by unfold RpL; exact ⟨v, vs, rfl, a, b⟩
theorem RpL.length : ∀ {ds : List D} {vs : List V}, RpL K H ds vs → vs.length = ds.length
  | [], vs, r => by unfold RpL at r; rw [r]; rfl
  | d :: ds, vs, r => by
    unfold RpL at r
    obtain ⟨v, t, e, q, l⟩ := r
    rw [e, List.length_cons, List.length_cons, RpL.length l]
theorem RpL.get : ∀ {ds : List D} {vs : List V} {i : Nat} {d : D}, RpL K H ds vs → ds[i]? = some d → ∃ v, vs[i]? = some v ∧ Rp K H d v
  | [], vs, i, d, r, e => by simp at e
  | x :: ds, vs, 0, d, r, e => by
    unfold RpL at r
    obtain ⟨v, t, rfl, q, l⟩ := r
    simp at e; subst e
    exact ⟨v, rfl, q⟩
  | x :: ds, vs, i + 1, d, r, e => by
    unfold RpL at r
    obtain ⟨v, t, rfl, q, l⟩ := r
    exact RpL.get (i := i) l (by simpa using e)
theorem RpL.append : ∀ {ds es : List D} {vs us : List V}, RpL K H ds vs → RpL K H es us → RpL K H (ds ++ es) (vs ++ us)
  | [], es, vs, us, r, s => by unfold RpL at r; rw [r]; exact s
  | d :: ds, es, vs, us, r, s => by
    unfold RpL at r
    obtain ⟨v, t, rfl, q, l⟩ := r
    exact RpL.cons q (RpL.append l s)
theorem RpL.take : ∀ {ds : List D} {vs : List V} (n : Nat), RpL K H ds vs → RpL K H (ds.take n) (vs.take n)
  | _, _, 0, _ => RpL.nil
  | [], vs, n + 1, r => by unfold RpL at r; rw [r]; exact RpL.nil
  | d :: ds, vs, n + 1, r => by
    unfold RpL at r
    obtain ⟨v, t, rfl, q, l⟩ := r
    exact RpL.cons q (RpL.take n l)
theorem RpL.drop : ∀ {ds : List D} {vs : List V} (n : Nat), RpL K H ds vs → RpL K H (ds.drop n) (vs.drop n)
  | _, _, 0, r => r
  | [], vs, n + 1, r => by unfold RpL at r; rw [r]; exact RpL.nil
  | d :: ds, vs, n + 1, r => by
    unfold RpL at r
    obtain ⟨v, t, rfl, q, l⟩ := r
    exact RpL.drop n l
theorem RpL.set {d : D} {v : V} (q : Rp K H d v) : ∀ {ds : List D} {vs : List V} (i : Nat), RpL K H ds vs → RpL K H (ds.set i d) (vs.set i v)
  | [], vs, i, r => by unfold RpL at r; rw [r]; exact RpL.nil
  | x :: ds, vs, 0, r => by
    unfold RpL at r
    obtain ⟨w, t, rfl, _, l⟩ := r
    exact RpL.cons q l
  | x :: ds, vs, i + 1, r => by
    unfold RpL at r
    obtain ⟨w, t, rfl, z, l⟩ := r
    exact RpL.cons z (RpL.set q i l)
theorem RpL.reverse : ∀ {ds : List D} {vs : List V}, RpL K H ds vs → RpL K H ds.reverse vs.reverse
  | [], vs, r => by unfold RpL at r; rw [r]; exact RpL.nil
  | d :: ds, vs, r => by
    unfold RpL at r
    obtain ⟨v, t, rfl, q, l⟩ := r
    rw [List.reverse_cons, List.reverse_cons]
    exact RpL.append (RpL.reverse l) (RpL.cons q RpL.nil)
theorem RpL.one {d : D} {vs : List V} (r : RpL K H [d] vs) : ∃ v, vs = [v] ∧ Rp K H d v := by
  unfold RpL at r
  obtain ⟨v, t, rfl, q, l⟩ := r
  unfold RpL at l
  subst l
  exact ⟨v, rfl, q⟩
theorem RpL.two {d e : D} {vs : List V} (r : RpL K H [d, e] vs) : ∃ v w, vs = [v, w] ∧ Rp K H d v ∧ Rp K H e w := by
  unfold RpL at r
  obtain ⟨v, t, rfl, q, l⟩ := r
  obtain ⟨w, rfl, z⟩ := l.one
  exact ⟨v, w, rfl, q, z⟩
theorem RpL.ints : ∀ {ns : List Int} {vs : List V}, RpL K H (ns.map D.int) vs → vs = ns.map V.int
  | [], vs, r => by unfold RpL at r; exact r
  | n :: ns, vs, r => by
    rw [List.map_cons] at r
    unfold RpL at r
    obtain ⟨v, t, rfl, q, l⟩ := r
    unfold Rp at q
    rw [q, RpL.ints l]; rfl
theorem RpL.bls : ∀ {ns : List Bool} {vs : List V}, RpL K H (ns.map D.bl) vs → vs = ns.map V.bl
  | [], vs, r => by unfold RpL at r; exact r
  | n :: ns, vs, r => by
    rw [List.map_cons] at r
    unfold RpL at r
    obtain ⟨v, t, rfl, q, l⟩ := r
    unfold Rp at q
    rw [q, RpL.bls l]; rfl
theorem RpL.strs : ∀ {ns : List Str} {vs : List V}, RpL K H (ns.map D.str) vs → vs = ns.map V.str
  | [], vs, r => by unfold RpL at r; exact r
  | n :: ns, vs, r => by
    rw [List.map_cons] at r
    unfold RpL at r
    obtain ⟨v, t, rfl, q, l⟩ := r
    unfold Rp at q
    rw [q, RpL.strs l]; rfl
end
end DL
set_option Elab.async false
set_option linter.all false
set_option maxRecDepth 100000
set_option maxHeartbeats 4000000
namespace DL
open PySem PySem.Spec PyProof.Rows L2
/-! ### small words of the readings -/
def iteB : Bool → Prop → Prop → Prop
  | true, A, _ => A
  | false, _, B => B
theorem iteB_of {c : Bool} {A B : Prop} (h1 : c = true → A) (h2 : c = false → B) : iteB c A B := by
  cases c with
  | true => exact h1 rfl
  | false => exact h2 rfl
theorem iteB_iff {c : Bool} {A B : Prop} : iteB c A B ↔ (if c = true then A else B) := by cases c <;> simp [iteB]
def asB : D → (Bool → Prop) → Prop
  | .bl b, k => k b
  | _, _ => False
def asI : D → (Int → Prop) → Prop
  | .int i, k => k i
  | _, _ => False
def lstAt : Option DO → (List D → Prop) → Prop
  | some (.lst ds), k => k ds
  | _, _ => False
def asL : D → DH → (List D → Prop) → Prop
  | .ref a, h, k => lstAt (h a) k
  | _, _, _ => False
/-- the things of a list -/
def asLl : D → DH → (List D → Prop) → Prop
  | .frz ds, _, k => k ds
  | .ref a, h, k => lstAt (h a) k
  | _, _, _ => False
/-! ### the judgements over data -/
section
variable (K : PySem.W.Frag) (mg : Str → Option Value) (G : Option (Hp × DH))
def lE (t : DTE) : TE := fun σ H Q => ∃ env h Q', anc K G H h ∧ ER K H env σ ∧ HR K mg H h ∧ t env h Q' ∧ ∀ v H' d h', Gr K H h H' h' → HR K mg H' h' → Rp K H' d v → Q' d h' → Q v H'
def lT (t : DTT) : TT := fun σ H Q => ∃ env h Q', anc K G H h ∧ ER K H env σ ∧ HR K mg H h ∧ t env h Q' ∧ ∀ b H' h', Gr K H h H' h' → HR K mg H' h' → Q' b h' → Q b H'
def lA (t : DTA) : TA := fun σ H Q => ∃ env h Q', anc K G H h ∧ ER K H env σ ∧ HR K mg H h ∧ t env h Q' ∧ ∀ vs H' ds h', Gr K H h H' h' → HR K mg H' h' → RpL K H' ds vs → Q' ds h' → Q vs H'
def lS (t : DTS) : TS := fun E σ H => ∃ env h E', anc K G H h ∧ ER K H env σ ∧ HR K mg H h ∧ t E' env h ∧
  (∀ σ' H' env' h', Gr K H h H' h' → ER K H' env' σ' → HR K mg H' h' → E'.nx env' h' → E.nx σ' H') ∧
  (∀ v H' d h', Gr K H h H' h' → HR K mg H' h' → Rp K H' d v → E'.rt d h' → E.rt v H') ∧
  (∀ σ' H' env' h', Gr K H h H' h' → ER K H' env' σ' → HR K mg H' h' → E'.bk env' h' → E.bk σ' H') ∧
  (∀ σ' H' env' h', Gr K H h H' h' → ER K H' env' σ' → HR K mg H' h' → E'.ct env' h' → E.ct σ' H')
/-- a list, new and not told in the data's heap: its things -/
def lL (t : DTA) : TE := fun σ H Q => ∃ env h Q', anc K G H h ∧ ER K H env σ ∧ HR K mg H h ∧ t env h Q' ∧ ∀ p H' ds vs h', Gr K H h H' h' → HR K mg H' h' → H' p = some (.lst vs) → RpL K H' ds vs → h' p = none → (∀ u, H p = some u → h p = none → False) → Q' ds h' → Q (.ref p) H'
/-- a list: its things -/
def lQ (t : DTA) : TE := fun σ H Q => ∃ env h Q', anc K G H h ∧ ER K H env σ ∧ HR K mg H h ∧ t env h Q' ∧ ∀ p H' ds vs h', Gr K H h H' h' → HR K mg H' h' → SqL K H' p vs → RpL K H' ds vs → Q' ds h' → Q (.ref p) H'
end
def DE (X : Cx) (G : Option (Hp × DH)) (e : Expr) (t : DTE) : Prop := PE X e (lE X.K X.mg G t)
def DT (X : Cx) (G : Option (Hp × DH)) (e : Expr) (t : DTT) : Prop := PT X e (lT X.K X.mg G t)
def DW (X : Cx) (G : Option (Hp × DH)) (e : Expr) (t : DTT) : Prop := PW X e (lT X.K X.mg G t)
def DA (X : Cx) (G : Option (Hp × DH)) (es : List Expr) (t : DTA) : Prop := PA X es (lA X.K X.mg G t)
def DS (X : Cx) (G : Option (Hp × DH)) (st : Stmt) (t : DTS) : Prop := PS X st (lS X.K X.mg G t)
def DSs (X : Cx) (G : Option (Hp × DH)) (st : List Stmt) (t : DTS) : Prop := PSs X st (lS X.K X.mg G t)
def DLs (X : Cx) (G : Option (Hp × DH)) (e : Expr) (t : DTA) : Prop := PE X e (lL X.K X.mg G t)
def DQ (X : Cx) (G : Option (Hp × DH)) (e : Expr) (t : DTA) : Prop := PE X e (lQ X.K X.mg G t)
section
variable {X : Cx} {G : Option (Hp × DH)} {e : Expr} {es : List Expr} {st : Stmt} {sts : List Stmt}
theorem PE.of {t t' : TE} (p : PE X e t) (i : ∀ σ H Q, t' σ H Q → t σ H Q) : PE X e t' := ⟨fun pins s σ H Q I q => p.run pins s σ H Q I (i _ _ _ q)⟩
theorem PT.of {t t' : TT} (p : PT X e t) (i : ∀ σ H Q, t' σ H Q → t σ H Q) : PT X e t' := ⟨fun pins s σ H Q I q => p.run pins s σ H Q I (i _ _ _ q)⟩
theorem PW.of {t t' : TT} (p : PW X e t) (i : ∀ σ H Q, t' σ H Q → t σ H Q) : PW X e t' := ⟨fun wh pins s σ H Q I q => p.run wh pins s σ H Q I (i _ _ _ q)⟩
theorem PA.of {t t' : TA} (p : PA X es t) (i : ∀ σ H Q, t' σ H Q → t σ H Q) : PA X es t' := ⟨fun pos pins s σ H Q I q => p.run pos pins s σ H Q I (i _ _ _ q)⟩
theorem PS.of {t t' : TS} (p : PS X st t) (i : ∀ E σ H, t' E σ H → t E σ H) : PS X st t' := ⟨fun pins s σ H E I q => p.run pins s σ H E I (i _ _ _ q)⟩
theorem PSs.of {t t' : TS} (p : PSs X sts t) (i : ∀ E σ H, t' E σ H → t E σ H) : PSs X sts t' := ⟨fun pins s σ H E I q => p.run pins s σ H E I (i _ _ _ q)⟩
theorem DW.dt {t : DTT} (h : DW X G e t) : DT X G e t := PW.pt h
end
/-! ### names and constants -/
def dVar (i : Nat) : DTE := fun env h Q => match env[i]? with
  | some (some d) => Q d h
  | _ => False
def dC (d : D) : DTE := fun _ h Q => Q d h
section
variable {X : Cx} {G : Option (Hp × DH)} {pos : Pos}
theorem de_var (i : Nat) {x : Str} (hN : X.N[i]? = some x := by rfl) (hv : Vis X.env.scope x := by first | exact Or.inl rfl | exact Or.inr (Or.inl rfl) | exact Or.inr (Or.inr rfl)) (hd : (x == ("__debug__" : Str)) = false := by decide)
    (hcd : (x == ("__classdict__" : Str)) = false := by decide) : DE X G (.Name x pos) (dVar i) := PE.of (pe_var hN hv hd hcd) fun σ H Q ⟨env, h, Q', g, er, hr, q, fin⟩ => by
  unfold dVar at q
  split at q
  · rename_i d e
    obtain ⟨v, e1, r⟩ := er.2 i d e
    exact ⟨v, e1, fin v H d h Gr.refl hr r q⟩
  · exact q.elim
theorem de_c {e : Expr} {d : D} {v : V} (p : PE X e (tC v)) (r : ∀ H, Rp X.K H d v) : DE X G e (dC d) := PE.of p fun σ H Q ⟨env, h, Q', g, er, hr, q, fin⟩ => fin v H d h Gr.refl hr (r H) q
theorem de_int {i j} : DE X G (.Constant (.int i) j pos) (dC (.int i)) := de_c pe_int fun _ => by unfold Rp; rfl
theorem de_bl {b j} : DE X G (.Constant (.bool b) j pos) (dC (.bl b)) := de_c pe_bl fun _ => by unfold Rp; rfl
theorem de_non {j} : DE X G (.Constant .none j pos) (dC .non) := de_c pe_non fun _ => by unfold Rp; rfl
theorem de_str {x j} : DE X G (.Constant (.str x) j pos) (dC (.str x)) := de_c pe_str fun _ => by unfold Rp; rfl
/-- a module's constant -/
theorem de_globI {x : Str} {i : Int} {t : Tok} (hg : Gl X x) (hm : X.mg x = some (.int i t)) (hd : (x == ("__debug__" : Str)) = false := by decide) : DE X G (.Name x pos) (dC (.int i)) :=
  de_c (pe_glob (v := .int i) hg hm ⟨_, rfl⟩ hd) fun _ => by unfold Rp; rfl
theorem de_globS {x : Str} {i : Str} {t : Tok} (hg : Gl X x) (hm : X.mg x = some (.str i t)) (hd : (x == ("__debug__" : Str)) = false := by decide) : DE X G (.Name x pos) (dC (.str i)) :=
  de_c (pe_glob (v := .str i) hg hm ⟨_, rfl⟩ hd) fun _ => by unfold Rp; rfl
end
/-! ### operators by values -/
abbrev DR2 := D → D → DH → DK → Prop
def lR (K : PySem.W.Frag) (mg : Str → Option Value) (r : DR2) : R2 := fun x y H Q => ∃ d e h Q', HR K mg H h ∧ Rp K H d x ∧ Rp K H e y ∧ r d e h Q' ∧ ∀ v H' d' h', Gr K H h H' h' → HR K mg H' h' → Rp K H' d' v → Q' d' h' → Q v H'
abbrev DOp (X : Cx) (f : Value → Value → Sem Value) (r : DR2) : Prop := OpR X f (lR X.K X.mg r)
def dBin (r : DR2) (ta tb : DTE) : DTE := fun env h Q => ta env h fun d h1 => tb env h1 fun e h2 => r d e h2 Q
section
variable {X : Cx} {G : Option (Hp × DH)} {a b c : Expr} {ta tb tc : DTE} {r r' : DR2} {pos : Pos}
/-- two expressions in a row -/
theorem two_of {σ : L2.St} {H : Hp} {Q : V → V → Hp → Prop} (env : DEnv) (h : DH) {Q' : D → D → DH → Prop} (g : anc X.K G H h) (er : ER X.K H env σ) (hr : HR X.K X.mg H h) (q : ta env h fun d h1 => tb env h1 fun e h2 => Q' d e h2)
    (fin : ∀ x y H' d e h', Gr X.K H h H' h' → HR X.K X.mg H' h' → Rp X.K H' d x → Rp X.K H' e y → Q' d e h' → Q x y H') :
    lE X.K X.mg G ta σ H fun x H1 => lE X.K X.mg G tb σ H1 fun y H2 => Q x y H2 :=
  ⟨env, h, _, g, er, hr, q, fun x H1 d h1 k1 r1 p1 q1 => ⟨env, h1, _, g.on k1, er.mono k1, r1, q1, fun y H2 e h2 k2 r2 p2 q2 => fin x y H2 d e h2 (k1.trans k2) r2 (Rp.mono k2 _ _ p1) p2 q2⟩⟩
theorem de_bin {o : Operator} (op : DOp X (binaryOp o) r) (ha : DE X G a ta) (hb : DE X G b tb) : DE X G (.BinOp a o b pos) (dBin r ta tb) :=
  PE.of (pe_op op ha hb) fun σ H Q ⟨env, h, Q', g, er, hr, q, fin⟩ => two_of env h g er hr q fun x y H' d e h' k r1 p1 p2 q1 => ⟨d, e, h', Q', r1, p1, p2, q1, fun v H2 d2 h2 k2 r2 p q2 => fin v H2 d2 h2 (k.trans k2) r2 p q2⟩
theorem de_cmp {o : CmpOp} (op : DOp X (compareOp o) r) (ha : DE X G a ta) (hb : DE X G b tb) (hm : behindInMarks o b = false := by first | exact nomark _ | rfl) : DE X G (.Compare a [o] [b] pos) (dBin r ta tb) :=
  PE.of (pe_cmpR op ha hb hm) fun σ H Q ⟨env, h, Q', g, er, hr, q, fin⟩ => two_of env h g er hr q fun x y H' d e h' k r1 p1 p2 q1 => ⟨d, e, h', Q', r1, p1, p2, q1, fun v H2 d2 h2 k2 r2 p q2 => fin v H2 d2 h2 (k.trans k2) r2 p q2⟩
/-- a < b < c -/
def dChain (r r' : DR2) (ta tb tc : DTE) : DTE := fun env h Q => ta env h fun d h1 => tb env h1 fun e h2 => r d e h2 fun z h3 => asB z fun k => iteB k (tc env h3 fun f h4 => r' e f h4 Q) (Q (.bl false) h3)
theorem asB_of {K : PySem.W.Frag} {H : Hp} {d : D} {v : V} {k : Bool → Prop} (q : asB d k) (p : Rp K H d v) : ∃ b, v = .bl b ∧ d = .bl b ∧ k b := by
  cases d with
  | bl b => unfold Rp at p; exact ⟨b, p, rfl, q⟩
  | _ => exact q.elim
theorem asI_of {K : PySem.W.Frag} {H : Hp} {d : D} {v : V} {k : Int → Prop} (q : asI d k) (p : Rp K H d v) : ∃ b, v = .int b ∧ d = .int b ∧ k b := by
  cases d with
  | int b => unfold Rp at p; exact ⟨b, p, rfl, q⟩
  | _ => exact q.elim
theorem asL_of {K : PySem.W.Frag} {mg : Str → Option Value} {H : Hp} {h : DH} {d : D} {v : V} {k : List D → Prop} (q : asL d h k) (p : Rp K H d v) (hr : HR K mg H h) : ∃ a ds vs, v = .ref a ∧ d = .ref a ∧ h a = some (.lst ds) ∧ H a = some (.lst vs) ∧ RpL K H ds vs ∧ k ds := by
  cases d with
  | ref a =>
    unfold Rp at p
    have q : lstAt (h a) k := q
    cases e : h a with
    | none => rw [e] at q; exact q.elim
    | some o =>
      rw [e] at q
      cases o with
      | lst ds =>
        obtain ⟨vs, e1, l⟩ := hr a _ e
        exact ⟨a, ds, vs, p, rfl, e, e1, l, q⟩
      | _ => exact q.elim
  | _ => exact q.elim
theorem asLl_of {K : PySem.W.Frag} {mg : Str → Option Value} {H : Hp} {h : DH} {d : D} {v : V} {k : List D → Prop} (q : asLl d h k) (p : Rp K H d v) (hr : HR K mg H h) : ∃ a ds vs, v = .ref a ∧ Rd H a (.lst vs) ∧ RpL K H ds vs ∧ k ds := by
  cases d with
  | frz ds =>
    unfold Rp at p
    obtain ⟨a, vs, rfl, s, l⟩ := p
    exact ⟨a, ds, vs, rfl, .inr s, l, q⟩
  | ref a =>
    obtain ⟨b, ds, vs, e1, _, _, e2, l, q⟩ := asL_of (show asL (.ref a) h k from q) p hr
    exact ⟨b, ds, vs, e1, .inl e2, l, q⟩
  | _ => exact q.elim
theorem chain_of {K : PySem.W.Frag} {mg : Str → Option Value} {σ : L2.St} {H : Hp} {Q : VK} {Q' : DK} {env : DEnv} {h : DH} (g : anc K G H h) (er : ER K H env σ) (hr : HR K mg H h) (q : dChain r r' ta tb tc env h Q')
    (fin : ∀ v H' d h', Gr K H h H' h' → HR K mg H' h' → Rp K H' d v → Q' d h' → Q v H') : tChain (lR K mg r) (lR K mg r') (lE K mg G ta) (lE K mg G tb) (lE K mg G tc) σ H Q := by
  refine ⟨env, h, _, g, er, hr, q, fun x H1 d h1 k1 r1 p1 q1 => ⟨env, h1, _, g.on k1, er.mono k1, r1, q1, fun y H2 e h2 k2 r2 p2 q2 => ?_⟩⟩
  refine ⟨d, e, h2, _, r2, Rp.mono k2 _ _ p1, p2, q2, fun z H3 d3 h3 k3 r3 p3 q3 => ?_⟩
  obtain ⟨b, rfl, rfl, q4⟩ := asB_of q3 p3
  refine ⟨b, rfl, ?_⟩
  cases b with
  | true =>
    rw [if_pos rfl]
    exact ⟨env, h3, _, g.on (k1.trans (k2.trans k3)), er.mono (k1.trans (k2.trans k3)), r3, q4, fun w' H4 f h4 k4 r4 p4 q5 => ⟨e, f, h4, Q', r4, Rp.mono (k3.trans k4) _ _ p2, p4, q5, fun v H5 d5 h5 k5 r5 p5 q6 => fin v H5 d5 h5 (k1.trans (k2.trans (k3.trans (k4.trans k5)))) r5 p5 q6⟩⟩
  | false =>
    rw [if_neg Bool.false_ne_true]
    exact fin _ H3 (.bl false) h3 (k1.trans (k2.trans k3)) r3 (by unfold Rp; rfl) q4
theorem de_chain {o o' : CmpOp} (op : DOp X (compareOp o) r) (op' : DOp X (compareOp o') r') (ha : DE X G a ta) (hb : DE X G b tb) (hc : DE X G c tc) (hm : lastMarks [o, o'] [b, c] = false := by with_unfolding_all rfl) : DE X G (.Compare a [o, o'] [b, c] pos) (dChain r r' ta tb tc) :=
  PE.of (pe_chain op op' ha hb hc hm) fun σ H Q ⟨env, h, Q', g, er, hr, q, fin⟩ => chain_of g er hr q fin
def dB (t : DTE) : DTT := fun env h Q => t env h fun d h1 => asB d fun c => Q c h1
theorem dt_chain {o o' : CmpOp} (op : DOp X (compareOp o) r) (op' : DOp X (compareOp o') r') (ha : DE X G a ta) (hb : DE X G b tb) (hc : DE X G c tc) (hm : lastMarks [o, o'] [b, c] = false := by with_unfolding_all rfl) : DT X G (.Compare a [o, o'] [b, c] pos) (dB (dChain r r' ta tb tc)) :=
  PT.of (pt_chain op op' ha hb hc hm) fun σ H Q ⟨env, h, Q', g, er, hr, q, fin⟩ => chain_of g er hr q fun v H' d h' k r1 p1 q1 => by
    obtain ⟨b, rfl, rfl, q2⟩ := asB_of q1 p1
    exact ⟨b, rfl, fin b H' h' k r1 q2⟩
theorem dt_cmp {o : CmpOp} (op : DOp X (compareOp o) r) (ha : DE X G a ta) (hb : DE X G b tb) (hm : behindInMarks o b = false := by first | exact nomark _ | rfl) : DT X G (.Compare a [o] [b] pos) (dB (dBin r ta tb)) :=
  PT.of (pt_cmpR op ha hb hm) fun σ H Q ⟨env, h, Q', g, er, hr, q, fin⟩ => two_of env h g er hr q fun x y H' d e h' k r1 p1 p2 q1 => ⟨d, e, h', _, r1, p1, p2, q1, fun v H2 d2 h2 k2 r2 p q2 => by
    obtain ⟨b, rfl, rfl, q3⟩ := asB_of q2 p
    exact ⟨b, rfl, fin b H2 h2 (k.trans k2) r2 q3⟩⟩
/-- an expression that gives a truth, as a test -/
theorem dt_val {e : Expr} {t : DTE} (p : DE X G e t) (he : ∀ whole, isTrue e X.env whole = (do let v ← whole; standAt e.pos; holding [v] (truthy v)) := by intro _; rfl) : DT X G e (dB t) :=
  PT.of (pt_val p he) fun σ H Q ⟨env, h, Q', g, er, hr, q, fin⟩ => ⟨env, h, _, g, er, hr, q, fun v H' d h' k r1 p1 q1 => by
    obtain ⟨b, rfl, rfl, q2⟩ := asB_of q1 p1
    exact ⟨b, rfl, fin b H' h' k r1 q2⟩⟩
/-! and, or, not -/
def dAnd (t u : DTT) : DTT := fun env h Q => t env h fun c h1 => iteB c (u env h1 Q) (Q false h1)
def dOr (t u : DTT) : DTT := fun env h Q => t env h fun c h1 => iteB c (Q true h1) (u env h1 Q)
def dNot (t : DTT) : DTT := fun env h Q => t env h fun c h1 => Q (!c) h1
variable {tA tB : DTT} {rest : List Expr}
theorem dw_and1 (ha : DT X G a tA) : DW X G (.BoolOp .And [a] pos) tA := pw_and1 ha
theorem dw_or1 (ha : DT X G a tA) : DW X G (.BoolOp .Or [a] pos) tA := pw_or1 ha
theorem dw_and (ha : DT X G a tA) (hb : DW X G (.BoolOp .And (b :: rest) pos) tB) : DW X G (.BoolOp .And (a :: b :: rest) pos) (dAnd tA tB) :=
  PW.of (pw_and ha hb) fun σ H Q ⟨env, h, Q', g, er, hr, q, fin⟩ => ⟨env, h, _, g, er, hr, q, fun c H' h' k r1 q1 => by
    cases c with
    | true => rw [if_pos rfl]; exact ⟨env, h', Q', g.on k, er.mono k, r1, q1, fun b H2 h2 k2 r2 q2 => fin b H2 h2 (k.trans k2) r2 q2⟩
    | false => rw [if_neg Bool.false_ne_true]; exact fin false H' h' k r1 q1⟩
theorem dw_or (ha : DT X G a tA) (hb : DW X G (.BoolOp .Or (b :: rest) pos) tB) : DW X G (.BoolOp .Or (a :: b :: rest) pos) (dOr tA tB) :=
  PW.of (pw_or ha hb) fun σ H Q ⟨env, h, Q', g, er, hr, q, fin⟩ => ⟨env, h, _, g, er, hr, q, fun c H' h' k r1 q1 => by
    cases c with
    | false => rw [if_neg Bool.false_ne_true]; exact ⟨env, h', Q', g.on k, er.mono k, r1, q1, fun b H2 h2 k2 r2 q2 => fin b H2 h2 (k.trans k2) r2 q2⟩
    | true => rw [if_pos rfl]; exact fin true H' h' k r1 q1⟩
theorem dt_not (ha : DT X G a tA) : DT X G (.UnaryOp .Not a pos) (dNot tA) :=
  PT.of (pt_not ha) fun σ H Q ⟨env, h, Q', g, er, hr, q, fin⟩ => ⟨env, h, _, g, er, hr, q, fun c H' h' k r1 q1 => fin (!c) H' h' k r1 q1⟩
def dAndV (ta tb : DTE) : DTE := fun env h Q => ta env h fun d h1 => asB d fun c => iteB c (tb env h1 Q) (Q (.bl false) h1)
def dOrV (ta tb : DTE) : DTE := fun env h Q => ta env h fun d h1 => asB d fun c => iteB c (Q (.bl true) h1) (tb env h1 Q)
def dNotV (ta : DTE) : DTE := fun env h Q => ta env h fun d h1 => asB d fun c => Q (.bl (!c)) h1
theorem de_one {op} (p : DE X G a ta) : DE X G (.BoolOp op [a] pos) ta := pe_one p
theorem de_and (ha : DE X G a ta) (hb : DE X G (.BoolOp .And (b :: rest) pos) tb) : DE X G (.BoolOp .And (a :: b :: rest) pos) (dAndV ta tb) :=
  PE.of (pe_and ha hb) fun σ H Q ⟨env, h, Q', g, er, hr, q, fin⟩ => ⟨env, h, _, g, er, hr, q, fun v H' d h' k r1 p1 q1 => by
    obtain ⟨c, rfl, rfl, q2⟩ := asB_of q1 p1
    refine ⟨c, rfl, ?_⟩
    cases c with
    | true => rw [if_pos rfl]; exact ⟨env, h', Q', g.on k, er.mono k, r1, q2, fun b H2 d2 h2 k2 r2 p2 q3 => fin b H2 d2 h2 (k.trans k2) r2 p2 q3⟩
    | false => rw [if_neg Bool.false_ne_true]; exact fin _ H' (.bl false) h' k r1 (by unfold Rp; rfl) q2⟩
theorem de_or (ha : DE X G a ta) (hb : DE X G (.BoolOp .Or (b :: rest) pos) tb) : DE X G (.BoolOp .Or (a :: b :: rest) pos) (dOrV ta tb) :=
  PE.of (pe_or ha hb) fun σ H Q ⟨env, h, Q', g, er, hr, q, fin⟩ => ⟨env, h, _, g, er, hr, q, fun v H' d h' k r1 p1 q1 => by
    obtain ⟨c, rfl, rfl, q2⟩ := asB_of q1 p1
    refine ⟨c, rfl, ?_⟩
    cases c with
    | false => rw [if_neg Bool.false_ne_true]; exact ⟨env, h', Q', g.on k, er.mono k, r1, q2, fun b H2 d2 h2 k2 r2 p2 q3 => fin b H2 d2 h2 (k.trans k2) r2 p2 q3⟩
    | true => rw [if_pos rfl]; exact fin _ H' (.bl true) h' k r1 (by unfold Rp; rfl) q2⟩
theorem de_not (ha : DE X G a ta) : DE X G (.UnaryOp .Not a pos) (dNotV ta) :=
  PE.of (pe_not ha) fun σ H Q ⟨env, h, Q', g, er, hr, q, fin⟩ => ⟨env, h, _, g, er, hr, q, fun v H' d h' k r1 p1 q1 => by
    obtain ⟨c, rfl, rfl, q2⟩ := asB_of q1 p1
    exact ⟨c, rfl, fin _ H' (.bl (!c)) h' k r1 (by unfold Rp; rfl) q2⟩⟩
/-- a if t else b -/
def dIfE (t : DTT) (ta tb : DTE) : DTE := fun env h Q => t env h fun c h1 => iteB c (ta env h1 Q) (tb env h1 Q)
theorem de_if {c : Expr} (hc : DT X G c tA) (ha : DE X G a ta) (hb : DE X G b tb) : DE X G (.IfExp c a b pos) (dIfE tA ta tb) :=
  PE.of (pe_ifExp hc ha hb) fun σ H Q ⟨env, h, Q', g, er, hr, q, fin⟩ => ⟨env, h, _, g, er, hr, q, fun c H' h' k r1 q1 => by
    cases c with
    | true => rw [if_pos rfl]; exact ⟨env, h', Q', g.on k, er.mono k, r1, q1, fun b H2 d2 h2 k2 r2 p2 q3 => fin b H2 d2 h2 (k.trans k2) r2 p2 q3⟩
    | false => rw [if_neg Bool.false_ne_true]; exact ⟨env, h', Q', g.on k, er.mono k, r1, q1, fun b H2 d2 h2 k2 r2 p2 q3 => fin b H2 d2 h2 (k.trans k2) r2 p2 q3⟩⟩
/-! lists: new ones, told ones -/
def dQl (t : DTE) : DTA := fun env h Q => t env h fun d h1 => asLl d h1 fun ds => Q ds h1
theorem dq_of {t : DTE} (p : DE X G a t) : DQ X G a (dQl t) :=
  PE.of p fun σ H Q ⟨env, h, Q', g, er, hr, q, fin⟩ => ⟨env, h, _, g, er, hr, q, fun v H' d h' k r1 p1 q1 => by
    obtain ⟨l, ds, vs, rfl, e2, l2, q2⟩ := asLl_of q1 p1 r1
    exact fin l H' ds vs h' k r1 (.inl e2) l2 q2⟩
theorem dq_new {t : DTA} (p : DLs X G a t) : DQ X G a t :=
  PE.of p fun σ H Q ⟨env, h, Q', g, er, hr, q, fin⟩ => ⟨env, h, Q', g, er, hr, q, fun l H' ds vs h' k r1 e1 l2 _ _ q2 => fin l H' ds vs h' k r1 (SqL.of e1) l2 q2⟩
/-- a new list is told in the data's heap -/
def dNew (t : DTA) : DTE := fun env h Q => t env h fun ds h1 => ∀ p, h1 p = none → Q (.ref p) (up h1 p (.lst ds))
theorem HR.told {K : PySem.W.Frag} {mg : Str → Option Value} {H : Hp} {h : DH} {p : Addr} {ds : List D} {vs : List V} (r : HR K mg H h) (e : H p = some (.lst vs)) (l : RpL K H ds vs) : HR K mg H (up h p (.lst ds)) := fun b o q => by
  by_cases hb : b = p
  · subst hb; rw [up_same] at q; cases q; exact ⟨vs, e, l⟩
  · rw [up_ne hb] at q; exact r b o q
theorem de_new {t : DTA} (p : DLs X G a t) : DE X G a (dNew t) :=
  PE.of p fun σ H Q ⟨env, h, Q', g, er, hr, q, fin⟩ => ⟨env, h, _, g, er, hr, q, fun l H' ds vs h' k r1 e1 l2 n nw q2 => fin _ H' (.ref l) _ ⟨k.tk, fun b u e z => by
    obtain ⟨z1, z2⟩ := k.fr b u e z
    refine ⟨z1, ?_⟩
    by_cases hb : b = l
    · subst hb; exact (nw u e z).elim
    · rw [up_ne hb]; exact z2⟩ (r1.told e1 l2) (by unfold Rp; rfl) (q2 l n)⟩
end
/-! ### argument lists, displays -/
def dNil : DTA := fun _ h Q => Q [] h
def dCons (t : DTE) (r : DTA) : DTA := fun env h Q => t env h fun d h1 => r env h1 fun ds h2 => Q (d :: ds) h2
def dTup (t : DTA) : DTE := fun env h Q => t env h fun ds h1 => ds.length ≤ sizeLine ∧ Q (.tup ds) h1
def dLst (t : DTA) : DTA := fun env h Q => t env h fun ds h1 => ds.length ≤ sizeLine ∧ Q ds h1
section
variable {X : Cx} {G : Option (Hp × DH)} {e : Expr} {es : List Expr} {t : DTE} {ts : DTA} {pos : Pos}
theorem da_nil : DA X G [] dNil := PA.of pa_nil fun σ H Q ⟨env, h, Q', g, er, hr, q, fin⟩ => fin [] H [] h Gr.refl hr RpL.nil q
theorem da_cons (ha : DE X G e t) (hr : DA X G es ts) (hs : starEach (e :: es) X.env = (false, eval e X.env) :: starEach es X.env := by rfl) : DA X G (e :: es) (dCons t ts) :=
  PA.of (pa_cons ha hr hs) fun σ H Q ⟨env, h, Q', g, er, hr, q, fin⟩ => ⟨env, h, _, g, er, hr, q, fun v H1 d h1 k1 r1 p1 q1 => ⟨env, h1, _, g.on k1, er.mono k1, r1, q1, fun vs H2 ds h2 k2 r2 p2 q2 =>
    fin (v :: vs) H2 (d :: ds) h2 (k1.trans k2) r2 (RpL.cons (Rp.mono k2 _ _ p1) p2) q2⟩⟩
theorem de_tup {x1} (p : DA X G es ts) : DE X G (.Tuple es x1 pos) (dTup ts) :=
  PE.of (pe_tup p) fun σ H Q ⟨env, h, Q', g, er, hr, q, fin⟩ => ⟨env, h, _, g, er, hr, q, fun vs H1 ds h1 k1 r1 p1 q1 => ⟨by rw [p1.length]; exact q1.1, fun l n =>
    fin (.ref l) _ (.tup ds) h1 (k1.trans (Gr.under n)) (r1.under n) (by unfold Rp; exact ⟨l, vs, rfl, SqT.of upd_same, RpL.monoT (TK.new n) _ _ p1⟩) q1.2⟩⟩
theorem dl_lst (p : DA X G es ts) : DLs X G (.List es pos) (dLst ts) :=
  PE.of (pe_lst p) fun σ H Q ⟨env, h, Q', g, er, hr, q, fin⟩ => ⟨env, h, _, g, er, hr, q, fun vs H1 ds h1 k1 r1 p1 q1 => ⟨by rw [p1.length]; exact q1.1, fun l n =>
    fin l _ ds vs h1 (k1.trans (Gr.under n)) (r1.under n) upd_same (RpL.monoT (TK.new n) _ _ p1) (r1.free n) (fun u e z => by rw [(k1.fr l u e z).1] at n; cases n) q1.2⟩⟩
end
end DL
set_option Elab.async false
set_option linter.all false
set_option maxRecDepth 100000
set_option maxHeartbeats 4000000
namespace DL
open PySem PySem.Spec PyProof.Rows L2
/-! ### lists become values: nobody writes them any more -/
/-- some lists of H are known to their objects -/
def FrzOf (hp : Heap) (H H2 : Hp) : Prop := ∀ a, H2 a = H a ∨ ∃ vs o, H a = some (.lst vs) ∧ hp.get? a = some o ∧ H2 a = some (.frz o (.lst vs))
section
variable {P : Program} {w : World} {hp : Heap} {H H2 : Hp}
theorem FrzOf.refl : FrzOf hp H H := fun _ => .inl rfl
theorem FrzOf.stays (f : FrzOf hp H H2) {a : Addr} {u : HO} (e : H a = some u) (n : ∀ vs, u ≠ .lst vs) : H2 a = some u := by
  rcases f a with z | ⟨vs, o, e1, _⟩
  · rw [z]; exact e
  · rw [e] at e1; cases e1; exact absurd rfl (n vs)
theorem FrzOf.none_ (f : FrzOf hp H H2) {a : Addr} (e : H a = none) : H2 a = none := by
  rcases f a with z | ⟨vs, o, e1, _⟩
  · rw [z]; exact e
  · rw [e] at e1; cases e1
theorem FrzOf.hok (f : FrzOf hp H H2) (ok : HOk P w H hp) : HOk P w H2 hp := fun a u e => by
  have own : ∀ {x : Addr} (b : Addr), H b = some (.own x) → H2 b = some (.own x) := fun b q => f.stays q (fun _ z => nomatch z)
  have tup : ∀ (b : Addr) xs, H b = some (.tup xs) → H2 b = some (.tup xs) := fun b xs q => f.stays q (fun _ z => nomatch z)
  rcases f a with z | ⟨vs, o, e1, e2, e3⟩
  · rw [z] at e
    exact (ok a u e).stay (fun _ _ _ q => q) own tup
  · rw [e3] at e
    cases e
    exact ⟨e2, (ok a _ e1).stay (fun _ _ _ q => q) own tup⟩
theorem FrzOf.un {fs ex : List Addr} {H0 : Hp} {h0 h1 : Heap} (f : FrzOf hp H H2) (u : Un fs ex H0 H h0 h1) : Un fs ex H0 H2 h0 h1 :=
  ⟨u.keep, u.slot, fun b o e n hx => f.none_ (u.free b o e n hx), u.there, fun b xs e => f.stays (u.tups b xs e) (fun _ z => nomatch z), fun b o x e => f.stays (u.frzs b o x e) (fun _ z => nomatch z), fun b ps e => by
    obtain ⟨m, z⟩ := u.tbls b ps e
    exact ⟨m, f.stays z (fun _ z => nomatch z)⟩⟩
theorem FrzOf.inv {X : Cx} {pins : List (Addr × Obj)} {σ : L2.St} {s : Shared} (f : FrzOf s.heap H H2) (I : Inv X pins σ H s) : Inv X pins σ H2 s :=
  ⟨I.ok, I.os, I.bare, f.un I.base, I.loc, I.cell, f.none_ I.free, fun x c e => f.none_ (I.freeC x c e), fun p hp => by
    obtain ⟨e, n, r⟩ := I.pin p hp
    exact ⟨e, f.none_ n, r⟩, f.hok I.hok, I.len⟩
theorem FrzOf.tk {K : PySem.W.Frag} (f : FrzOf hp H H2) : TK K H H2 := by
  refine ⟨fun a xs q => ?_, fun a xs ⟨o, q⟩ => ⟨o, f.stays q (fun _ z => nomatch z)⟩, fun a o u q => f.stays q (fun _ z => nomatch z), fun a fs q => f.stays q (fun _ z => nomatch z)⟩
  rcases q with (q | ⟨o, q⟩) | q
  · exact .inl (.inl (f.stays q (fun _ z => nomatch z)))
  · exact .inl (.inr ⟨o, f.stays q (fun _ z => nomatch z)⟩)
  · exact .inr q
end
/-- what holds behind it -/
def slQ (P : Program) (w : World) (Q : VK) : VK := fun v H' => ∀ hp : Heap, HOk P w H' hp → ∃ H2, FrzOf hp H' H2 ∧ Q v H2
section
variable {X : Cx} {e : Expr} {st : Stmt}
theorem EP.seal {pins : List (Addr × Obj)} {σ : L2.St} {Q : VK} {u : Value} {s' : Shared} (z : EP X pins σ (slQ X.prog X.w Q) u s') : EP X pins σ Q u s' := by
  obtain ⟨v, H', I', r, q'⟩ := z
  obtain ⟨H2, f, q2⟩ := q' s'.heap I'.hok
  exact ⟨v, H2, f.inv I', r, q2⟩
theorem PE.seal {t : TE} (p : PE X e t) : PE X e (fun σ H Q => t σ H (slQ X.prog X.w Q)) := ⟨fun pins s σ H Q I q => thn (p.run pins s σ H _ I q) fun u s' ⟨v, H', I', r, q'⟩ => by
  obtain ⟨H2, f, q2⟩ := q' s'.heap I'.hok
  exact ⟨v, H2, f.inv I', r, q2⟩⟩
theorem PS.seal {t : TS} (p : PS X st t) : PS X st (fun E σ H => t ⟨fun σ' H' => ∀ hp : Heap, HOk X.prog X.w H' hp → ∃ H2, FrzOf hp H' H2 ∧ E.nx σ' H2, E.rt, E.bk, E.ct⟩ σ H) := ⟨fun pins s σ H D I q => thn (p.run pins s σ H _ I q) fun f s' z => by
  cases f with
  | next =>
    obtain ⟨σ', H', I', q'⟩ := z
    obtain ⟨H2, g, q2⟩ := q' s'.heap I'.hok
    exact ⟨σ', H2, g.inv I', q2⟩
  | brk => exact z
  | cont => exact z
  | ret u => exact z⟩
end
/-- one list -/
theorem frz_one {P : Program} {w : World} {hp : Heap} {H : Hp} {p : Addr} {vs : List V} (ok : HOk P w H hp) (e : H p = some (.lst vs)) : ∃ o, FrzOf hp H (upd H p (.frz o (.lst vs))) := by
  obtain ⟨_, its, n, _, e1⟩ := ok p _ e
  refine ⟨{ cls := .type "list", data := .seq its.toArray n }, fun a => ?_⟩
  by_cases ha : a = p
  · subst ha; exact .inr ⟨vs, _, e, e1, upd_same⟩
  · exact .inl (upd_ne ha)
/-- a new list as a value -/
def dNewV (t : DTA) : DTE := fun env h Q => t env h fun ds h1 => Q (.frz ds) h1
section
variable {K : PySem.W.Frag} {mg : Str → Option Value} {P : Program} {w : World} {H H' : Hp} {h h' : DH} {p : Addr} {ds : List D} {vs : List V}
/-- a list that is not told, and was not there, becomes a value -/
theorem newV_fin {hp : Heap} (k : Gr K H h H' h') (r : HR K mg H' h') (e : H' p = some (.lst vs)) (l : RpL K H' ds vs) (n : h' p = none) (nw : ∀ u, H p = some u → h p = none → False) (ok : HOk P w H' hp) :
    ∃ H2, FrzOf hp H' H2 ∧ Gr K H h H2 h' ∧ HR K mg H2 h' ∧ Rp K H2 (.frz ds) (.ref p) := by
  obtain ⟨o, f⟩ := frz_one ok e
  refine ⟨_, f, ⟨k.tk.trans f.tk, fun b u q z => ?_⟩, fun b ob q => ?_, ?_⟩
  · obtain ⟨z1, z2⟩ := k.fr b u q z
    refine ⟨?_, z2⟩
    by_cases hb : b = p
    · subst hb; exact (nw u q z).elim
    · rw [upd_ne hb]; exact z1
  · have hb : b ≠ p := fun z => by subst z; rw [n] at q; cases q
    exact (r b ob q).monoT f.tk fun u q' => by rw [upd_ne hb]; exact q'
  · unfold Rp
    exact ⟨p, vs, rfl, ⟨o, upd_same⟩, RpL.monoT f.tk _ _ l⟩
/-- a list laid just now becomes a value -/
theorem laidV {hp : Heap} (r : HR K mg H h) (n : H p = none) (l : RpL K H ds vs) (ok : HOk P w (upd H p (.lst vs)) hp) : ∃ H2, FrzOf hp (upd H p (.lst vs)) H2 ∧ Gr K H h H2 h ∧ HR K mg H2 h ∧ Rp K H2 (.frz ds) (.ref p) :=
  newV_fin (Gr.under n) (r.under n) upd_same (RpL.monoT (TK.new n) _ _ l) (r.free n) (fun u e _ => by rw [n] at e; cases e) ok
end
theorem de_newV {X : Cx} {G : Option (Hp × DH)} {a : Expr} {t : DTA} (p : DLs X G a t) : DE X G a (dNewV t) :=
  PE.of (PE.seal p) fun σ H Q ⟨env, h, Q', g, er, hr, q, fin⟩ => ⟨env, h, _, g, er, hr, q, fun l H' ds vs h' k r1 e1 l2 n nw q2 hp ok => by
    obtain ⟨H2, f, k2, r2, p2⟩ := newV_fin k r1 e1 l2 n nw ok
    exact ⟨H2, f, fin _ H2 (.frz ds) h' k2 r2 p2 q2⟩⟩
/-! ### told lists become values -/
mutual
inductive SlD (A : Addr → Prop) (h : DH) : D → D → Prop
  | keep (d : D) : SlD A h d d
  | lst {a : Addr} {ds es : List D} : A a → h a = some (.lst ds) → SlL A h ds es → SlD A h (.ref a) (.frz es)
  | tup {ds es : List D} : SlL A h ds es → SlD A h (.tup ds) (.tup es)
  | frz {ds es : List D} : SlL A h ds es → SlD A h (.frz ds) (.frz es)
inductive SlL (A : Addr → Prop) (h : DH) : List D → List D → Prop
  | nil : SlL A h [] []
  | cons {d e : D} {ds es : List D} : SlD A h d e → SlL A h ds es → SlL A h (d :: ds) (e :: es)
end
theorem SlL.keep {A : Addr → Prop} {h : DH} : ∀ ds : List D, SlL A h ds ds
  | [] => .nil
  | d :: ds => .cons (.keep d) (SlL.keep ds)
/-- a value stands for d, the heap forgets -/
def Sl (h : DH) (d d' : D) (h' : DH) : Prop := ∃ A : Addr → Prop, (∀ a o, h' a = some o → h a = some o ∧ ¬ A a) ∧ SlD A h d d'
section
variable {K : PySem.W.Frag} {mg : Str → Option Value} {H H2 : Hp} {h h' : DH} {A : Addr → Prop}
mutual
theorem SlD.rp (tk : TK K H H2) (hr : HR K mg H h) (fz : ∀ a vs, A a → (h a).isSome = true → H a = some (.lst vs) → ∃ o, H2 a = some (.frz o (.lst vs))) : ∀ {d e : D} {v : V}, SlD A h d e → Rp K H d v → Rp K H2 e v
  | _, _, v, .keep d, r => Rp.monoT tk d v r
  | _, _, v, .lst ha e l, r => by
    unfold Rp at r
    subst r
    obtain ⟨vs, e1, l1⟩ := hr.lst e
    unfold Rp
    exact ⟨_, vs, rfl, fz _ vs ha (by rw [e]; rfl) e1, SlL.rp tk hr fz l l1⟩
  | _, _, v, .tup l, r => by
    unfold Rp at r ⊢
    obtain ⟨a, vs, e, q, l1⟩ := r
    exact ⟨a, vs, e, tk.1 _ _ q, SlL.rp tk hr fz l l1⟩
  | _, _, v, .frz l, r => by
    unfold Rp at r ⊢
    obtain ⟨a, vs, e, q, l1⟩ := r
    exact ⟨a, vs, e, tk.2 _ _ q, SlL.rp tk hr fz l l1⟩
theorem SlL.rp (tk : TK K H H2) (hr : HR K mg H h) (fz : ∀ a vs, A a → (h a).isSome = true → H a = some (.lst vs) → ∃ o, H2 a = some (.frz o (.lst vs))) : ∀ {ds es : List D} {vs : List V}, SlL A h ds es → RpL K H ds vs → RpL K H2 es vs
  | _, _, vs, .nil, r => by unfold RpL at r ⊢; exact r
  | _, _, vs, .cons a b, r => by
    unfold RpL at r ⊢
    obtain ⟨v, t, e, q, l⟩ := r
    exact ⟨v, t, e, SlD.rp tk hr fz a q, SlL.rp tk hr fz b l⟩
end
end
open Classical in
theorem Sl.fin {K : PySem.W.Frag} {mg : Str → Option Value} {P : Program} {w : World} {H : Hp} {h h' : DH} {d d' : D} {v : V} {hp : Heap} (sl : Sl h d d' h') (hr : HR K mg H h) (r : Rp K H d v) (ok : HOk P w H hp) :
    ∃ H2, FrzOf hp H H2 ∧ Gr K H h H2 h' ∧ HR K mg H2 h' ∧ Rp K H2 d' v := by
  obtain ⟨A, lt, sd⟩ := sl
  let H2 : Hp := fun a => if A a ∧ (h a).isSome = true then (match H a, hp.get? a with
    | some (.lst vs), some o => some (.frz o (.lst vs))
    | x, _ => x) else H a
  have out : ∀ a, ¬ (A a ∧ (h a).isSome = true) → H2 a = H a := fun a n => if_neg n
  have fz : ∀ a vs, A a → (h a).isSome = true → H a = some (.lst vs) → ∃ o, hp.get? a = some o ∧ H2 a = some (.frz o (.lst vs)) := fun a vs ha hs e => by
    obtain ⟨_, its, n, _, e1⟩ := ok a _ e
    refine ⟨_, e1, ?_⟩
    show (if A a ∧ (h a).isSome = true then _ else _) = _
    rw [if_pos ⟨ha, hs⟩, e, e1]
  have f : FrzOf hp H H2 := fun a => by
    by_cases c : A a ∧ (h a).isSome = true
    · cases e : H a with
      | none =>
        refine .inl ?_
        show (if A a ∧ (h a).isSome = true then _ else _) = _
        rw [if_pos c, e]
      | some u =>
        cases u with
        | lst vs =>
          obtain ⟨o, e1, e2⟩ := fz a vs c.1 c.2 e
          exact .inr ⟨vs, o, rfl, e1, e2⟩
        | _ =>
          refine .inl ?_
          show (if A a ∧ (h a).isSome = true then _ else _) = _
          rw [if_pos c, e]
    · exact .inl (out a c)
  refine ⟨H2, f, ⟨f.tk, fun b u e n => ⟨?_, ?_⟩⟩, fun a o e => ?_, sd.rp f.tk hr (fun a vs ha hs e => ?_) r⟩
  · rw [out b fun z => by rw [n] at z; cases z.2]; exact e
  · cases q : h' b with
    | none => rfl
    | some o => rw [(lt b o q).1] at n; cases n
  · obtain ⟨e1, na⟩ := lt a o e
    exact (hr a o e1).monoT f.tk fun u q => by rw [out a fun z => na z.1]; exact q
  · obtain ⟨o, _, e2⟩ := fz a vs ha hs e
    exact ⟨o, e2⟩
end DL
set_option Elab.async false
set_option linter.all false
set_option maxRecDepth 100000
set_option maxHeartbeats 4000000
namespace DL
open PySem PySem.Spec PyProof.Rows L2
/-! ### statements -/
def dNext : DTS := fun E env h => E.nx env h
def dSeq (t u : DTS) : DTS := fun E env h => t ⟨u E, E.rt, E.bk, E.ct⟩ env h
def dIf (c : DTT) (t u : DTS) : DTS := fun E env h => c env h fun b h1 => iteB b (t E env h1) (u E env h1)
def dRet (t : DTE) : DTS := fun E env h => t env h E.rt
def dRetN : DTS := fun E _ h => E.rt .non h
def dDrop (t : DTE) : DTS := fun E env h => t env h fun _ h1 => E.nx env h1
def dCont : DTS := fun E env h => E.ct env h
def dAsg (i : Nat) (t : DTE) : DTS := fun E env h => t env h fun d h1 => E.nx (env.set i (some d)) h1
def dNever : DTS := fun _ _ _ => False
section
variable {X : Cx} {G : Option (Hp × DH)} {st : Stmt} {rest a b : List Stmt} {t u : DTS} {e : Expr} {te : DTE} {tc : DTT} {pos : Pos}
theorem dss_nil : DSs X G [] dNext := PSs.of pss_nil fun E σ H ⟨env, h, E', g, er, hr, q, nx, _⟩ => nx σ H env h Gr.refl er hr q
theorem dss_cons (h1 : DS X G st t) (h2 : DSs X G rest u) : DSs X G (st :: rest) (dSeq t u) :=
  PSs.of (pss_cons h1 h2) fun E σ H ⟨env, h, E', g, er, hr, q, nx, rt, bk, ct⟩ => ⟨env, h, ⟨u E', E'.rt, E'.bk, E'.ct⟩, g, er, hr, q,
    fun σ' H' env' h' k er' hr' q' => ⟨env', h', E', g.on k, er', hr', q', fun σ2 H2 env2 h2 k2 => nx σ2 H2 env2 h2 (k.trans k2), fun v H2 d h2 k2 => rt v H2 d h2 (k.trans k2), fun σ2 H2 env2 h2 k2 => bk σ2 H2 env2 h2 (k.trans k2), fun σ2 H2 env2 h2 k2 => ct σ2 H2 env2 h2 (k.trans k2)⟩, rt, bk, ct⟩
theorem dss_one (h1 : DS X G st t) : DSs X G [st] t := pss_one h1
theorem ds_pass : DS X G (.Pass pos) dNext := PS.of ps_pass fun E σ H ⟨env, h, E', g, er, hr, q, nx, _⟩ => nx σ H env h Gr.refl er hr q
theorem ds_continue : DS X G (.Continue pos) dCont := PS.of ps_continue fun E σ H ⟨env, h, E', g, er, hr, q, nx, rt, bk, ct⟩ => ct σ H env h Gr.refl er hr q
theorem ds_doc {x j pos pos'} : DS X G (.Expr (.Constant (.str x) j pos) pos') dNext := PS.of ps_doc fun E σ H ⟨env, h, E', g, er, hr, q, nx, _⟩ => nx σ H env h Gr.refl er hr q
theorem ds_never : DS X G st dNever := PS.of ps_never fun E σ H ⟨env, h, E', g, er, hr, q, _⟩ => q
theorem dss_never : DSs X G a dNever := PSs.of pss_never fun E σ H ⟨env, h, E', g, er, hr, q, _⟩ => q
theorem ds_expr (p : DE X G e te) (hs : swapsWith e none pos.line X.env = pure false := by rfl) : DS X G (.Expr e pos) (dDrop te) :=
  PS.of (ps_expr p hs) fun E σ H ⟨env, h, E', g, er, hr, q, nx, _⟩ => ⟨env, h, _, g, er, hr, q, fun v H' d h' k r1 p1 q1 => nx σ H' env h' k (er.mono k) r1 q1⟩
theorem ds_ret (p : DE X G e te) : DS X G (.Return (some e) pos) (dRet te) :=
  PS.of (ps_ret p) fun E σ H ⟨env, h, E', g, er, hr, q, nx, rt, _⟩ => ⟨env, h, _, g, er, hr, q, fun v H' d h' k r1 p1 q1 => rt v H' d h' k r1 p1 q1⟩
theorem ds_retN : DS X G (.Return none pos) dRetN := PS.of ps_retN fun E σ H ⟨env, h, E', g, er, hr, q, nx, rt, _⟩ => rt .non H .non h Gr.refl hr (by unfold Rp; rfl) q
theorem ds_if {c : Expr} (hc : DT X G c tc) (ha : DSs X G a t) (hb : DSs X G b u) : DS X G (.If c a b pos) (dIf tc t u) :=
  PS.of (ps_if hc ha hb) fun E σ H ⟨env, h, E', g, er, hr, q, nx, rt, bk, ct⟩ => ⟨env, h, _, g, er, hr, q, fun c H' h' k r1 q1 => by
    cases c with
    | true =>
      rw [if_pos rfl]
      exact ⟨env, h', E', g.on k, er.mono k, r1, q1, fun σ2 H2 env2 h2 k2 => nx σ2 H2 env2 h2 (k.trans k2), fun v H2 d h2 k2 => rt v H2 d h2 (k.trans k2), fun σ2 H2 env2 h2 k2 => bk σ2 H2 env2 h2 (k.trans k2), fun σ2 H2 env2 h2 k2 => ct σ2 H2 env2 h2 (k.trans k2)⟩
    | false =>
      rw [if_neg Bool.false_ne_true]
      exact ⟨env, h', E', g.on k, er.mono k, r1, q1, fun σ2 H2 env2 h2 k2 => nx σ2 H2 env2 h2 (k.trans k2), fun v H2 d h2 k2 => rt v H2 d h2 (k.trans k2), fun σ2 H2 env2 h2 k2 => bk σ2 H2 env2 h2 (k.trans k2), fun σ2 H2 env2 h2 k2 => ct σ2 H2 env2 h2 (k.trans k2)⟩⟩
theorem ds_set {i : Nat} {x : Str} {pos' : Pos} (hN : X.N.Nodup) (p : DE X G e te) (hi : X.N[i]? = some x := by rfl) (hx : Loc X.env.scope x := by first | exact Or.inl rfl | exact Or.inr rfl) (hs : swapsWith e (some (.Name x pos')) pos.line X.env = pure false := by rfl)
    (hf : X.fn x = true ∨ X.env.scope.names.lookup x = some .local := by first | exact .inl rfl | exact .inr rfl | assumption) : DS X G (.Assign [.Name x pos'] e pos) (dAsg i te) :=
  PS.of (ps_set hN hi hx p hs hf) fun E σ H ⟨env, h, E', g, er, hr, q, nx, _⟩ => ⟨env, h, _, g, er, hr, q, fun v H' d h' k r1 p1 q1 => nx _ H' _ h' k ((er.mono k).set i p1) r1 q1⟩
end
/-! ### targets -/
inductive Tgt where
  | name (i : Nat)
  | tup (is : List Nat)
def Tgt.slots : Tgt → List Nat
  | .name i => [i]
  | .tup is => is
def gNames : List Nat → TGs
  | [] => gNil
  | i :: is => gCons (gName i) (gNames is)
def tgG (K : PySem.W.Frag) : Tgt → TG
  | .name i => gName i
  | .tup is => gTup K is.length (gNames is)
def setsD : List Nat → List D → DEnv → DEnv
  | i :: is, d :: ds, env => setsD is ds (env.set i (some d))
  | _, _, env => env
def setsV : List Nat → List V → L2.St → L2.St
  | i :: is, d :: ds, env => setsV is ds (env.set i (some d))
  | _, _, env => env
def dTg : Tgt → D → DEnv → (DEnv → Prop) → Prop
  | .name i, d, env, k => k (env.set i (some d))
  | .tup is, .tup ds, env, k => ds.length = is.length ∧ k (setsD is ds env)
  | _, _, _, _ => False
section
variable {K : PySem.W.Frag} {H : Hp}
theorem setsV_len : ∀ (is : List Nat) (vs : List V) (σ : L2.St), (setsV is vs σ).length = σ.length
  | [], _, _ => rfl
  | _ :: _, [], _ => rfl
  | i :: is, v :: vs, σ => by
    show (setsV is vs (σ.set i (some v))).length = σ.length
    rw [setsV_len is vs, List.length_set]
theorem setsV_out {j : Nat} : ∀ (is : List Nat) (vs : List V) (σ : L2.St), j ∉ is → (setsV is vs σ)[j]? = σ[j]?
  | [], _, _, _ => rfl
  | _ :: _, [], _, _ => rfl
  | i :: is, v :: vs, σ, hj => by
    show (setsV is vs (σ.set i (some v)))[j]? = σ[j]?
    rw [setsV_out is vs _ (fun z => hj (List.mem_cons_of_mem _ z)), List.getElem?_set_ne (fun z => hj (by rw [z]; exact List.mem_cons_self))]
theorem gNames_of {R : L2.St → Hp → Prop} : ∀ (is : List Nat) (ds : List D) (vs : List V) (env : DEnv) (σ : L2.St), ds.length = is.length → RpL K H ds vs → ER K H env σ →
    (ER K H (setsD is ds env) (setsV is vs σ) → R (setsV is vs σ) H) → gNames is vs σ H R
  | [], ds, vs, env, σ, hl, r, er, q => by
    cases ds with
    | nil => unfold RpL at r; subst r; exact ⟨rfl, q er⟩
    | cons d ds => cases hl
  | i :: is, ds, vs, env, σ, hl, r, er, q => by
    cases ds with
    | nil => cases hl
    | cons d ds =>
      unfold RpL at r
      obtain ⟨v, t, rfl, r1, r2⟩ := r
      exact ⟨v, t, rfl, gNames_of is ds t (env.set i (some d)) (σ.set i (some v)) (by simpa using hl) r2 (er.set i r1) q⟩
theorem tg_of {tg : Tgt} {d : D} {v : V} {env : DEnv} {σ : L2.St} {k : DEnv → Prop} {R : L2.St → Hp → Prop} (q : dTg tg d env k) (p : Rp K H d v) (er : ER K H env σ)
    (fin : ∀ env' σ', ER K H env' σ' → (∀ j, j ∉ tg.slots → σ'[j]? = σ[j]?) → σ'.length = σ.length → k env' → R σ' H) : tgG K tg v σ H R := by
  cases tg with
  | name i =>
    refine fin (env.set i (some d)) (σ.set i (some v)) (er.set i p) (fun j hj => ?_) (List.length_set ..) q
    rw [List.getElem?_set_ne (fun z => hj (by rw [z]; exact List.mem_cons_self))]
  | tup is =>
    cases d with
    | tup ds =>
      unfold Rp at p
      obtain ⟨a, vs, rfl, hs, hl⟩ := p
      refine ⟨a, vs, rfl, hs, by rw [hl.length]; exact q.1, ?_⟩
      exact gNames_of is ds vs env σ q.1 hl er fun er' => fin _ _ er' (fun j hj => setsV_out is vs σ hj) (setsV_len is vs σ) q.2
    | _ => exact q.elim
end
/-- a, b = e -/
def dUnp (is : List Nat) (t : DTE) : DTS := fun E env h => t env h fun d h1 => dTg (.tup is) d env fun env' => E.nx env' h1
section
variable {X : Cx} {G : Option (Hp × DH)} {pos : Pos} {e tg : Expr} {te : DTE}
theorem ds_unp {is : List Nat} (p : DE X G e te) (hg : PG X tg (tgG X.K (.tup is))) (hs : swapsWithSole [tg] e pos.line X.env = pure false := by rfl) (hw : swappedStores [tg] e X.env = pure none := by rfl)
    (h1 : (assignEach [tg] X.env).map (·.2) = [assign tg X.env] := by rfl) : DS X G (.Assign [tg] e pos) (dUnp is te) :=
  PS.of (ps_asg p hg hs hw h1) fun E σ H ⟨env, h, E', g, er, hr, q, nx, _⟩ => ⟨env, h, _, g, er, hr, q, fun v H' d h' k r1 p1 q1 => tg_of q1 p1 (er.mono k) fun env' σ' er' _ _ q2 => nx σ' H' env' h' k er' r1 q2⟩
/-- a, b = x, y -/
def dPar (i j : Nat) (t : DTA) : DTS := fun E env h => t env h fun ds h1 => match ds with
  | [d, e] => E.nx ((env.set i (some d)).set j (some e)) h1
  | _ => False
theorem ds_par {i j : Nat} {x y : Str} {a b : Expr} {ta : DTA} {px py pt : Pos} {kt k2 pt2} (hc : X.calm = true) (hN : X.N.Nodup) (hi : X.N[i]? = some x) (hj : X.N[j]? = some y) (hij : i ≠ j)
    (hx : X.env.scope.names.lookup x = some .local) (hy : X.env.scope.names.lookup y = some .local) (ha : DA X G [a, b] ta)
    (hw : swappedStores [.Tuple [.Name x px, .Name y py] kt pt] (.Tuple [a, b] k2 pt2) X.env = pure (some [x, y]))
    (hs : swapsWithSole [.Tuple [.Name x px, .Name y py] kt pt] (.Tuple [a, b] k2 pt2) pos.line X.env = pure false := by rfl) :
    DS X G (.Assign [.Tuple [.Name x px, .Name y py] kt pt] (.Tuple [a, b] k2 pt2) pos) (dPar i j ta) :=
  PS.of (ps_par hc hN hi hj hij hx hy ha hw hs) fun E σ H ⟨env, h, E', g, er, hr, q, nx, _⟩ => ⟨env, h, _, g, er, hr, q, fun vs H' ds h' k r1 p1 q1 => by
    match ds, q1 with
    | [d, e], q1 =>
      obtain ⟨v, w, rfl, z1, z2⟩ := p1.two
      exact ⟨v, w, rfl, nx _ H' _ h' k (((er.mono k).set i z1).set j z2) r1 q1⟩⟩
end
/-! ### o[i] = e for lists -/
abbrev DSet := D → D → D → DH → (DH → Prop) → Prop
def lSet (K : PySem.W.Frag) (mg : Str → Option Value) (r : DSet) : TSet := fun o i v H Q => ∃ od id vd h Q', HR K mg H h ∧ Rp K H od o ∧ Rp K H id i ∧ Rp K H vd v ∧ r od id vd h Q' ∧ ∀ H' h', Gr K H h H' h' → HR K mg H' h' → Q' h' → Q H'
def rSetIx : DSet := fun o i v h Q => match o, i with
  | .ref a, .int k => lstAt (h a) fun ds => ∃ j, ixN ds.length k = some j ∧ Q (up h a (.lst (ds.set j v)))
  | _, _ => False
theorem setIx {X : Cx} : PSet X (lSet X.K X.mg rSetIx) := by
  intro pins s σ H o i v ov iv u Q I ro ri rv h
  obtain ⟨od, id, vd, h, Q', hr, po, pi, pv, q, fin⟩ := h
  refine set_list pins s σ H o i v ov iv u Q I ro ri rv ?_
  cases od with
  | ref a =>
    cases id with
    | int k =>
      unfold Rp at po pi
      have q : lstAt (h a) fun ds => ∃ j, ixN ds.length k = some j ∧ Q' (up h a (.lst (ds.set j vd))) := q
      cases e : h a with
      | none => rw [e] at q; exact q.elim
      | some ob =>
        rw [e] at q
        cases ob with
        | ins c fs => exact q.elim
        | dK _ => exact q.elim
        | dN _ _ => exact q.elim
        | lst ds =>
          obtain ⟨j, hj, q⟩ := q
          obtain ⟨vs, e1, l⟩ := hr a _ e
          have m : Mut (H a) := by rw [e1]; trivial
          have k1 : Gr X.K H h (upd H a (.lst (vs.set j v))) (up h a (.lst (ds.set j vd))) := Gr.write m e
          refine ⟨a, vs, k, j, po, pi, e1, by rw [l.length]; exact hj, fin _ _ k1 (hr.write (o := .lst (ds.set j vd)) m ⟨_, upd_same, RpL.mono k1 _ _ (l.set pv j)⟩) q⟩
    | _ => exact q.elim
  | _ => exact q.elim
def dSetIx (r : DSet) (tv to ti : DTE) : DTS := fun E env h => tv env h fun v h1 => to env h1 fun o h2 => ti env h2 fun i h3 => r o i v h3 fun h4 => E.nx env h4
section
variable {X : Cx} {G : Option (Hp × DH)} {pos p2 : Pos} {e o i : Expr} {tv to ti : DTE} {r : DSet}
theorem ds_setIx (hset : PSet X (lSet X.K X.mg r)) (he : DE X G e tv) (ho : DE X G o to) (hi : DE X G i ti)
    (ha : ∀ v, assign (.Subscript o i p2) X.env v = (do
      let ov ← holding [v] (eval o X.env)
      let iv ← holding [v, ov] (eval i X.env)
      standAt p2
      holding [v, ov, iv] (setItem ov iv v)
      release [v, ov, iv] []) := by intro _; rfl)
    (hs : swapsWithSole [.Subscript o i p2] e pos.line X.env = pure false := by rfl) (hw : swappedStores [.Subscript o i p2] e X.env = pure none := by rfl)
    (h1 : (assignEach [.Subscript o i p2] X.env).map (·.2) = [assign (.Subscript o i p2) X.env] := by rfl) : DS X G (.Assign [.Subscript o i p2] e pos) (dSetIx r tv to ti) :=
  PS.of (ps_asg he (pg_sub ho hi hset ha) hs hw h1) fun E σ H ⟨env, h, E', g, er, hr, q, nx, _⟩ =>
    ⟨env, h, _, g, er, hr, q, fun v H1 d h1 k1 r1 p1 q1 => ⟨env, h1, _, g.on k1, er.mono k1, r1, q1, fun vo H2 dO h2 k2 r2 p2 q2 => ⟨env, h2, _, g.on (k1.trans k2), er.mono (k1.trans k2), r2, q2, fun vi H3 di h3 k3 r3 p3 q3 =>
      ⟨dO, di, d, h3, _, r3, Rp.mono k3 _ _ p2, p3, Rp.mono (k2.trans k3) _ _ p1, q3, fun H4 h4 k4 r4 q4 => nx σ H4 env h4 (k1.trans (k2.trans (k3.trans k4))) (er.mono (k1.trans (k2.trans (k3.trans k4)))) r4 q4⟩⟩⟩⟩
end
/-! ### while -/
def dWh (c : DTT) (b : DTS) (E : DEnds) : Nat → DEnv → DH → Prop
  | 0, _, _ => False
  | n + 1, env, h => c env h fun k h1 => iteB k (b ⟨dWh c b E n, E.rt, E.nx, dWh c b E n⟩ env h1) (E.nx env h1)
def dWhile (c : DTT) (b : DTS) : DTS := fun E env h => ∃ n, dWh c b E n env h
section
variable {X : Cx} {G : Option (Hp × DH)} {pos : Pos} {c : Expr} {body : List Stmt} {tc : DTT} {tb : DTS}
theorem ds_while (hp : PassesOwn (model X.prog X.w) X.A X.env X.xe) (hc : DT X G c tc) (hb : DSs X G body tb) : DS X G (.While c body [] pos) (dWhile tc tb) :=
  PS.of (ps_while hp hc hb) fun E σ H ⟨env, h, E', g, er, hr, ⟨n, q⟩, nx, rt, bk, ct⟩ => by
    refine ⟨fun m σ1 H1 => ∃ env1 h1, Gr X.K H h H1 h1 ∧ ER X.K H1 env1 σ1 ∧ HR X.K X.mg H1 h1 ∧ dWh tc tb E' m env1 h1, ⟨n, env, h, Gr.refl, er, hr, q⟩, ?_⟩
    rintro m σ1 H1 ⟨env1, h1, k1, er1, hr1, q1⟩
    cases m with
    | zero => exact q1.elim
    | succ m =>
      refine ⟨env1, h1, _, g.on k1, er1, hr1, q1, fun b H2 h2 k2 r2 q2 => ?_⟩
      cases b with
      | false => rw [if_neg Bool.false_ne_true]; exact nx σ1 H2 env1 h2 (k1.trans k2) (er1.mono k2) r2 q2
      | true =>
        rw [if_pos rfl]
        refine ⟨fun σ3 H3 => ∃ env3 h3, Gr X.K H h H3 h3 ∧ ER X.K H3 env3 σ3 ∧ HR X.K X.mg H3 h3 ∧ dWh tc tb E' m env3 h3, fun σ3 H3 z => ⟨m, Nat.lt_succ_self m, z⟩, ?_⟩
        refine ⟨env1, h2, _, g.on (k1.trans k2), er1.mono k2, r2, q2, fun σ3 H3 env3 h3 k3 er3 hr3 q3 => ⟨env3, h3, k1.trans (k2.trans k3), er3, hr3, q3⟩, fun v H3 d h3 k3 => rt v H3 d h3 (k1.trans (k2.trans k3)), fun σ3 H3 env3 h3 k3 => nx σ3 H3 env3 h3 (k1.trans (k2.trans k3)),
          fun σ3 H3 env3 h3 k3 er3 hr3 q3 => ⟨env3, h3, k1.trans (k2.trans k3), er3, hr3, q3⟩⟩
end
end DL
set_option Elab.async false
set_option linter.all false
set_option maxRecDepth 100000
set_option maxHeartbeats 4000000
namespace DL
open PySem PySem.Spec PyProof.Rows L2
/-! ### what a loop walks -/
abbrev DTI := DEnv → DH → (List D → (DH → Prop) → DH → Prop) → Prop
structure ItOk (K : PySem.W.Frag) (mg : Str → Option Value) (H1 : Hp) (h0 : DH) (J : It) (items : List D) (chk : DH → Prop) : Prop where
  go : ∀ (i : Nat) H h, Gr K H1 h0 H h → HR K mg H h → chk h → i < items.length → J.go i H
  yld : ∀ (i : Nat) H h x H', Gr K H1 h0 H h → HR K mg H h → chk h → i < items.length → J.yld i H x H' → Gr K H h H' h ∧ HR K mg H' h ∧ ∃ d, items[i]? = some d ∧ Rp K H' d x
  stop : ∀ H h, Gr K H1 h0 H h → HR K mg H h → chk h → J.stop items.length H
def lI (K : PySem.W.Frag) (mg : Str → Option Value) (G : Option (Hp × DH)) (t : DTI) : TI := fun σ H R => ∃ env h Q', anc K G H h ∧ ER K H env σ ∧ HR K mg H h ∧ t env h Q' ∧ ∀ J H' items chk h', Gr K H h H' h' → HR K mg H' h' → ItOk K mg H' h' J items chk → Q' items chk h' → R J H'
def DI (X : Cx) (G : Option (Hp × DH)) (tg iter : Expr) (t : DTI) : Prop := PI X tg iter (lI X.K X.mg G t)
theorem PI.of {X : Cx} {tg iter : Expr} {t t' : TI} (p : PI X tg iter t) (i : ∀ σ H R, t' σ H R → t σ H R) : PI X tg iter t' := ⟨fun pins s σ H R I q => p.run pins s σ H R I (i _ _ _ q)⟩
def signs (x : Str) : List D := x.cps.toList.map fun c => .str ⟨#[c]⟩
/-- the things of a value that is walked -/
def asIt : D → DH → (List D → (DH → Prop) → Prop) → Prop
  | .tup ds, _, k => k ds fun _ => True
  | .frz ds, _, k => k ds fun _ => True
  | .str x, _, k => k (signs x) fun _ => True
  | .ref a, h, k => lstAt (h a) fun ds => k ds fun h' => h' a = some (.lst ds)
  | _, _, _ => False
section
variable {K : PySem.W.Frag} {mg : Str → Option Value} {H1 : Hp} {h0 : DH}
theorem it_frz {a : Addr} {vs : List V} {ds : List D} (hs : SqF H1 a vs) (l : RpL K H1 ds vs) : ItOk K mg H1 h0 (Itl K a) ds fun _ => True := by
  refine ⟨fun i H h k hr _ hi => ?_, fun i H h x H' k hr _ hi y => ?_, fun H h k hr _ => ?_⟩
  · have hi' : i < vs.length := by rw [l.length]; exact hi
    exact ⟨vs, vs[i], (k.tk.2 _ _ hs).seq, by simp [hi']⟩
  · obtain ⟨rfl, y⟩ := y
    obtain ⟨v, e, r⟩ := l.get (List.getElem?_eq_getElem hi)
    have e2 := y vs (k.tk.2 _ _ hs).seq
    rw [e] at e2
    cases e2
    exact ⟨Gr.refl, hr, _, List.getElem?_eq_getElem hi, Rp.monoT k.tk _ _ r⟩
  · exact ⟨vs, (k.tk.2 _ _ hs).seq, by rw [l.length]; exact Nat.le_refl _⟩
theorem it_lst {a : Addr} {ds : List D} : ItOk K mg H1 h0 (Itl K a) ds fun h => h a = some (.lst ds) := by
  refine ⟨fun i H h k hr c hi => ?_, fun i H h x H' k hr c hi y => ?_, fun H h k hr c => ?_⟩
  · obtain ⟨vs, e, l⟩ := hr.lst c
    have hi' : i < vs.length := by rw [l.length]; exact hi
    exact ⟨vs, vs[i], SqL.of e, by simp [hi']⟩
  · obtain ⟨vs, e, l⟩ := hr.lst c
    obtain ⟨rfl, y⟩ := y
    obtain ⟨v, e1, r⟩ := l.get (List.getElem?_eq_getElem hi)
    have e2 := y vs (SqL.of e)
    rw [e1] at e2
    cases e2
    exact ⟨Gr.refl, hr, _, List.getElem?_eq_getElem hi, r⟩
  · obtain ⟨vs, e, l⟩ := hr.lst c
    exact ⟨vs, SqL.of e, by rw [l.length]; exact Nat.le_refl _⟩
theorem it_str {x : Str} : ItOk K mg H1 h0 (Its x) (signs x) fun _ => True := by
  have hl : (signs x).length = x.cps.size := by simp [signs]
  refine ⟨fun i H h k hr c hi => ?_, fun i H h v H' k hr c hi y => ?_, fun H h k hr c => ?_⟩
  · show i < x.cps.size
    omega
  · obtain ⟨rfl, cc, e, rfl⟩ := y
    refine ⟨Gr.refl, hr, .str ⟨#[cc]⟩, ?_, by unfold Rp; rfl⟩
    unfold signs
    rw [List.getElem?_map, Array.getElem?_toList, e]
    rfl
  · show x.cps.size ≤ (signs x).length
    omega
def intsD (lo : Int) (n : Nat) : List D := (List.range n).map fun i => .int (lo + (i : Nat))
theorem it_range {lo : Int} {n : Nat} : ItOk K mg H1 h0 (Itr lo n) (intsD lo n) fun _ => True := by
  have hl : (intsD lo n).length = n := by simp [intsD]
  refine ⟨fun i H h k hr c hi => ?_, fun i H h v H' k hr c hi y => ?_, fun H h k hr c => ?_⟩
  · show i < n
    omega
  · obtain ⟨rfl, rfl⟩ := y
    refine ⟨Gr.refl, hr, .int (lo + i), ?_, by unfold Rp; rfl⟩
    unfold intsD
    rw [List.getElem?_map, List.getElem?_range (by omega)]
    rfl
  · show n ≤ (intsD lo n).length
    omega
end
/-- for x in e, whatever e is: a list, a tuple, a text -/
def dIt (t : DTE) : DTI := fun env h Q => t env h fun d h1 => asIt d h1 fun ds chk => Q ds chk h1
section
variable {X : Cx} {G : Option (Hp × DH)} {tg l : Expr} {t : DTE}
/-- what is walked: its iterator -/
theorem pie_any {pins : List (Addr × Obj)} {s1 : Shared} {σ : L2.St} {R : It → Hp → Prop} {H1 : Hp} {h1 : DH} {x : V} {v : Value} {d : D} {Q' : List D → (DH → Prop) → Prop} (I1 : Inv X pins σ H1 s1) (r1 : RelV x v) (hr1 : HR X.K X.mg H1 h1) (p : Rp X.K H1 d x) (q1 : asIt d h1 Q')
    (fin : ∀ J items chk, ItOk X.K X.mg H1 h1 J items chk → Q' items chk → R J H1) : wpAny (model X.prog X.w) X.A (pyIter v) (PIE X pins σ tg R) X.xe s1 := by
  cases d with
  | tup ds =>
    unfold Rp at p
    obtain ⟨a, vs, rfl, hs, l⟩ := p
    cases r1
    obtain ⟨its, rv, p, hz⟩ := I1.tuple hs
    refine wpAny_pyIter_tuple (show s1.heap.IsTuple a its.toArray from p) ?_
    refine ⟨s1.heap.objs.size, [s1.heap.objs.size], _, _, H1, rfl, I1.kept (t' := s1.toks) fun b o e => Heap.get?_push_of_some _ e, turn_tuple a _, ⟨_, Heap.get?_push_size _ rfl, rfl, rfl⟩, fun b hb => ?_, fin (Itt X.K a) ds _ ?_ q1⟩
    · have e : b = s1.heap.objs.size := by simpa using hb
      subst e
      exact I1.fpOk (Nat.le_refl _) (I1.hok.fresh (Nat.le_refl _))
    · refine ⟨fun i H h k hr _ hi => ?_, fun i H h x H' k hr _ hi y => ?_, fun H h k hr _ => ?_⟩
      · have hi' : i < vs.length := by rw [l.length]; exact hi
        exact ⟨vs, vs[i], k.tk.1 _ _ hs, by simp [hi']⟩
      · obtain ⟨rfl, y⟩ := y
        obtain ⟨v, e, r⟩ := l.get (List.getElem?_eq_getElem hi)
        have e2 := y vs (k.tk.1 _ _ hs)
        rw [e] at e2
        cases e2
        exact ⟨Gr.refl, hr, _, List.getElem?_eq_getElem hi, Rp.monoT k.tk _ _ r⟩
      · exact ⟨vs, k.tk.1 _ _ hs, by rw [l.length]; exact Nat.le_refl _⟩
  | frz ds =>
    unfold Rp at p
    obtain ⟨a, vs, rfl, hs, l⟩ := p
    cases r1
    obtain ⟨its, rv, p, hz⟩ := I1.list hs.seq
    refine wpAny_pyIter_list p.isList ?_
    refine ⟨s1.heap.objs.size, [s1.heap.objs.size], _, _, H1, rfl, I1.kept (t' := s1.toks) fun b o e => Heap.get?_push_of_some _ e, turn_list a _, ⟨_, Heap.get?_push_size _ rfl, rfl, rfl⟩, fun b hb => ?_, fin (Itl X.K a) ds _ (it_frz hs l) q1⟩
    have e : b = s1.heap.objs.size := by simpa using hb
    subst e
    exact I1.fpOk (Nat.le_refl _) (I1.hok.fresh (Nat.le_refl _))
  | ref a =>
    obtain ⟨b, ds, vs, e0, e1, e2, e3, l, q2⟩ := asL_of (show asL (.ref a) h1 fun ds => Q' ds (fun h' => h' a = some (.lst ds)) from q1) p hr1
    subst e0
    cases e1
    cases r1
    obtain ⟨its, rv, p, hz⟩ := I1.list (SqL.of e3)
    refine wpAny_pyIter_list p.isList ?_
    refine ⟨s1.heap.objs.size, [s1.heap.objs.size], _, _, H1, rfl, I1.kept (t' := s1.toks) fun b o e => Heap.get?_push_of_some _ e, turn_list a _, ⟨_, Heap.get?_push_size _ rfl, rfl, rfl⟩, fun b hb => ?_, fin (Itl X.K a) ds _ it_lst q2⟩
    have e : b = s1.heap.objs.size := by simpa using hb
    subst e
    exact I1.fpOk (Nat.le_refl _) (I1.hok.fresh (Nat.le_refl _))
  | str z =>
    unfold Rp at p
    subst p
    obtain ⟨t, rfl⟩ := r1
    have q2 := fin (Its z) (signs z) _ it_str q1
    cases ha : z.cps.all (· < 128)
    · exact wpAny_pyIter_wide ha (pi_one (tk := s1.toks) I1 _ (turn_str _ z t "str_iterator" (.inr rfl)) ⟨_, Heap.get?_push_size _ rfl, rfl, rfl⟩ q2)
    · exact wpAny_pyIter_ascii ha (pi_one (tk := s1.toks) I1 _ (turn_str _ z t "str_ascii_iterator" (.inl rfl)) ⟨_, Heap.get?_push_size _ rfl, rfl, rfl⟩ q2)
  | _ => exact q1.elim
theorem di_any (hl : DE X G l t) : DI X G tg l (dIt t) := by
  refine ⟨fun pins s σ H R I q => ?_⟩
  obtain ⟨env, h, Q', g, er, hr, q, fin⟩ := q
  refine thn (hl.run pins s σ H _ I ⟨env, h, _, g, er, hr, q, fun v H1 d h1 k r p q1 => (⟨d, h1, k, r, p, q1⟩ : ∃ d h1, Gr X.K H h H1 h1 ∧ HR X.K X.mg H1 h1 ∧ Rp X.K H1 d v ∧ asIt d h1 fun ds chk => Q' ds chk h1)⟩) fun v s1 ⟨x, H1, I1, r1, d, h1, k, hr1, p, q1⟩ => ?_
  exact pie_any I1 r1 hr1 p q1 fun J items chk ok q => fin J H1 items chk h1 k hr1 ok q
/-- for x in a new list: nobody else has it -/
def dItN (t : DTA) : DTI := fun env h Q => t env h fun ds h1 => Q ds (fun _ => True) h1
theorem it_new {K : PySem.W.Frag} {mg : Str → Option Value} {H1 : Hp} {h0 : DH} {a : Addr} {vs : List V} {ds : List D} (e : H1 a = some (.lst vs)) (n : h0 a = none) (l : RpL K H1 ds vs) : ItOk K mg H1 h0 (Itl K a) ds fun _ => True := by
  refine ⟨fun i H h k hr _ hi => ?_, fun i H h x H' k hr _ hi y => ?_, fun H h k hr _ => ?_⟩
  · have hi' : i < vs.length := by rw [l.length]; exact hi
    exact ⟨vs, vs[i], SqL.of (k.fr _ _ e n).1, by simp [hi']⟩
  · obtain ⟨rfl, y⟩ := y
    obtain ⟨v, e1, r⟩ := l.get (List.getElem?_eq_getElem hi)
    have e2 := y vs (SqL.of (k.fr _ _ e n).1)
    rw [e1] at e2
    cases e2
    exact ⟨Gr.refl, hr, _, List.getElem?_eq_getElem hi, Rp.monoT k.tk _ _ r⟩
  · exact ⟨vs, SqL.of (k.fr _ _ e n).1, by rw [l.length]; exact Nat.le_refl _⟩
theorem di_new {t : DTA} (hl : DLs X G l t) : DI X G tg l (dItN t) := by
  refine ⟨fun pins s σ H R I q => ?_⟩
  obtain ⟨env, h, Q', g, er, hr, q, fin⟩ := q
  refine thn (hl.run pins s σ H (fun v H1 => ∃ a ds vs h1, v = .ref a ∧ Gr X.K H h H1 h1 ∧ HR X.K X.mg H1 h1 ∧ H1 a = some (.lst vs) ∧ RpL X.K H1 ds vs ∧ h1 a = none ∧ Q' ds (fun _ => True) h1) I
    ⟨env, h, _, g, er, hr, q, fun p H1 ds vs h1 k r e l n nw q1 => ⟨p, ds, vs, h1, rfl, k, r, e, l, n, q1⟩⟩) fun v s1 ⟨x, H1, I1, r1, a, ds, vs, h1, ex, k, hr1, e, l, n, q1⟩ => ?_
  subst ex
  cases r1
  obtain ⟨its, rv, p, hz⟩ := I1.list (SqL.of e)
  refine wpAny_pyIter_list p.isList ?_
  refine ⟨s1.heap.objs.size, [s1.heap.objs.size], _, _, H1, rfl, I1.kept (t' := s1.toks) fun b o e => Heap.get?_push_of_some _ e, turn_list a _, ⟨_, Heap.get?_push_size _ rfl, rfl, rfl⟩, fun b hb => ?_, fin (Itl X.K a) H1 ds _ h1 k hr1 (it_new e n l) q1⟩
  have e : b = s1.heap.objs.size := by simpa using hb
  subst e
  exact I1.fpOk (Nat.le_refl _) (I1.hok.fresh (Nat.le_refl _))
/-- range(n), range(a, b) -/
def RgI (i : Int) : Prop := -(2 ^ 62) ≤ i ∧ i < 2 ^ 62
def dRg1 (t : DTA) : DTI := fun env h Q => t env h fun ds h1 => match ds with
  | [d] => asI d fun n => RgI n ∧ Q (intsD 0 n.toNat) (fun _ => True) h1
  | _ => False
def dRg2 (t : DTA) : DTI := fun env h Q => t env h fun ds h1 => match ds with
  | [d, e] => asI d fun i => asI e fun j => RgI i ∧ RgI j ∧ Q (intsD i (j - i).toNat) (fun _ => True) h1
  | _ => False
variable {a b : Expr} {ta : DTA} {p pos : Pos}
theorem di_range1 (hg : Gl X "range") (hm : X.mg "range" = none) (ha : DA X G [a] ta) (hs : starEach [a] X.env = [(false, eval a X.env)] := by rfl) : DI X G tg (.Call (.Name "range" p) [a] [] pos) (dRg1 ta) :=
  PI.of (pi_range1 hg hm ha hs) fun σ H R ⟨env, h, Q', g, er, hr, q, fin⟩ => ⟨env, h, _, g, er, hr, q, fun vs H1 ds h1 k r1 p1 q1 => by
    match ds, q1 with
    | [d], q1 =>
      obtain ⟨v, rfl, p2⟩ := p1.one
      obtain ⟨n, rfl, rfl, ⟨g1, g2⟩, q2⟩ := asI_of q1 p2
      exact ⟨n, rfl, g1, g2, fin _ H1 _ _ h1 k r1 it_range q2⟩⟩
theorem di_range2 (hg : Gl X "range") (hm : X.mg "range" = none) (ha : DA X G [a, b] ta) (hs : starEach [a, b] X.env = [(false, eval a X.env), (false, eval b X.env)] := by rfl) (hs2 : starEach [b] X.env = [(false, eval b X.env)] := by rfl) : DI X G tg (.Call (.Name "range" p) [a, b] [] pos) (dRg2 ta) :=
  PI.of (pi_range2 hg hm ha hs hs2) fun σ H R ⟨env, h, Q', g, er, hr, q, fin⟩ => ⟨env, h, _, g, er, hr, q, fun vs H1 ds h1 k r1 p1 q1 => by
    match ds, q1 with
    | [d, e], q1 =>
      obtain ⟨v, w, rfl, p2, p3⟩ := p1.two
      obtain ⟨i, rfl, rfl, q2⟩ := asI_of q1 p2
      obtain ⟨j, rfl, rfl, ⟨g1, g2⟩, ⟨g3, g4⟩, q3⟩ := asI_of q2 p3
      exact ⟨i, j, rfl, ⟨g1, g2, g3, g4⟩, fin _ H1 _ _ h1 k r1 it_range q3⟩⟩
end
/-- range(a, b, -1) -/
def downD (lo : Int) (n : Nat) : List D := (List.range n).map fun i => .int (lo - (i : Nat))
theorem it_down {K : PySem.W.Frag} {mg : Str → Option Value} {H1 : Hp} {h0 : DH} {lo : Int} {n : Nat} : ItOk K mg H1 h0 (Itc lo (-1) n) (downD lo n) fun _ => True := by
  have hl : (downD lo n).length = n := by simp [downD]
  refine ⟨fun i H h k hr c hi => ?_, fun i H h v H' k hr c hi y => ?_, fun H h k hr c => ?_⟩
  · show i < n
    omega
  · obtain ⟨rfl, rfl⟩ := y
    refine ⟨Gr.refl, hr, .int (lo + (i : Nat) * (-1)), ?_, by unfold Rp; rfl⟩
    unfold downD
    rw [List.getElem?_map, List.getElem?_range (by omega)]
    have e : lo - (i : Nat) = lo + (i : Nat) * (-1) := by omega
    rw [← e]
    rfl
  · show n ≤ (downD lo n).length
    omega
def dRg3 (t : DTA) : DTI := fun env h Q => t env h fun ds h1 => match ds with
  | [d, e, f] => asI d fun i => asI e fun j => asI f fun c => c = -1 ∧ RgI i ∧ RgI j ∧ Q (downD i (i - j).toNat) (fun _ => True) h1
  | _ => False
theorem di_range3 {X : Cx} {G : Option (Hp × DH)} {tg a b c : Expr} {ta : DTA} {p pos : Pos} (hg : Gl X "range") (hm : X.mg "range" = none) (ha : DA X G [a, b, c] ta) (hs : starEach [a, b, c] X.env = (false, eval a X.env) :: starEach [b, c] X.env) (hpl : (backTo pos (starEach [b, c] X.env)).any (·.1) = false) :
    DI X G tg (.Call (.Name "range" p) [a, b, c] [] pos) (dRg3 ta) :=
  PI.of (pi_range3 hg hm ha hs hpl) fun σ H R ⟨env, h, Q', g, er, hr, q, fin⟩ => ⟨env, h, _, g, er, hr, q, fun vs H1 ds h1 k r1 p1 q1 => by
    match ds, q1, p1 with
    | [d, e, f], q1, p1 =>
      unfold RpL at p1
      obtain ⟨v, vs', rfl, p2, p3⟩ := p1
      obtain ⟨w, z, rfl, p4, p5⟩ := p3.two
      obtain ⟨i, rfl, rfl, q2⟩ := asI_of q1 p2
      obtain ⟨j, rfl, rfl, q3⟩ := asI_of q2 p4
      obtain ⟨s, rfl, rfl, rfl, ⟨g1, g2⟩, ⟨g3, g4⟩, q4⟩ := asI_of q3 p5
      exact ⟨i, j, -1, (i - j).toNat, rfl, RgC.neg g1 g2 g3 g4, fin _ H1 _ _ h1 k r1 it_down q4⟩
    | [], q1, _ => exact q1.elim
    | [_], q1, _ => exact q1.elim
    | [_, _], q1, _ => exact q1.elim
    | _ :: _ :: _ :: _ :: _, q1, _ => exact q1.elim⟩
/-! ### for -/
def dLoop (g : Tgt) (b : DTS) (chk : DH → Prop) (E : DEnds) : List D → DEnv → DH → Prop
  | [], env, h => chk h ∧ E.nx env h
  | x :: r, env, h => chk h ∧ dTg g x env fun env' => b ⟨dLoop g b chk E r, E.rt, E.nx, dLoop g b chk E r⟩ env' h
def dFor (di : DTI) (g : Tgt) (b : DTS) : DTS := fun E env h => di env h fun items chk h' => dLoop g b chk E items env h'
section
variable {X : Cx} {G : Option (Hp × DH)} {tg iter : Expr} {body : List Stmt} {di : DTI} {g : Tgt} {tb : DTS} {pos : Pos}
theorem ds_for (hp : PassesOwn (model X.prog X.w) X.A X.env X.xe) (hc : X.calm = true) (hi : DI X G tg iter di) (hg : PG X tg (tgG X.K g)) (hb : DSs X G body tb) (hs : ∀ x, foldedSetIterable iter X.env x = pure x := by intro _; rfl) : DS X G (.For tg iter body [] pos) (dFor di g tb) :=
  PS.of (ps_for hp hc hi hg hb hs) fun E σ H ⟨env, h, E', ga, er, hr, q, nx, rt, bk, ct⟩ => ⟨env, h, _, ga, er, hr, q, fun J H1 items chk h1 k1 r1 ok q1 => by
    refine ⟨fun i m σ2 H2 => ∃ env2 h2, Gr X.K H1 h1 H2 h2 ∧ ER X.K H2 env2 σ2 ∧ HR X.K X.mg H2 h2 ∧ dLoop g tb chk E' (items.drop i) env2 h2 ∧ m = items.length - i ∧ i ≤ items.length, ⟨items.length, env, h1, Gr.refl, er.mono k1, r1, q1, rfl, Nat.zero_le _⟩, ?_⟩
    rintro i m σ2 H2 ⟨env2, h2, k2, er2, r2, q2, rfl, hi⟩
    by_cases hlt : i < items.length
    · rw [List.drop_eq_getElem_cons hlt] at q2
      obtain ⟨c2, q2⟩ := q2
      refine .inr ⟨ok.go i H2 h2 k2 r2 c2 hlt, fun σ3 H3 => ∃ env3 h3, Gr X.K H1 h1 H3 h3 ∧ ER X.K H3 env3 σ3 ∧ HR X.K X.mg H3 h3 ∧ dLoop g tb chk E' (items.drop (i + 1)) env3 h3, fun σ3 H3 ⟨env3, h3, k3, er3, r3, q3⟩ => ⟨items.length - (i + 1), by omega, env3, h3, k3, er3, r3, q3, rfl, hlt⟩, fun x H3 y => ?_⟩
      obtain ⟨k3, r3, d, e3, p3⟩ := ok.yld i H2 h2 x H3 k2 r2 c2 hlt y
      rw [List.getElem?_eq_getElem hlt] at e3
      cases e3
      refine tg_of q2 p3 (er2.mono k3) fun env4 σ4 er4 _ _ q4 => ?_
      have k4 := k1.trans (k2.trans k3)
      exact ⟨env4, h2, _, ga.on k4, er4, r3, q4, fun σ5 H5 env5 h5 k5 er5 r5 q5 => ⟨env5, h5, k2.trans (k3.trans k5), er5, r5, q5⟩, fun v H5 d h5 k5 => rt v H5 d h5 (k4.trans k5), fun σ5 H5 env5 h5 k5 => nx σ5 H5 env5 h5 (k4.trans k5), fun σ5 H5 env5 h5 k5 er5 r5 q5 => ⟨env5, h5, k2.trans (k3.trans k5), er5, r5, q5⟩⟩
    · have e : i = items.length := by omega
      subst e
      rw [List.drop_length] at q2
      exact .inl ⟨ok.stop H2 h2 k2 r2 q2.1, nx σ2 H2 env2 h2 (k1.trans k2) er2 r2 q2.2⟩⟩
end
/-! ### list comprehensions -/
def wipeD (env : DEnv) : List Nat → DEnv
  | [] => env
  | v :: vs => (wipeD env vs).set v none
def dComp (g : Tgt) (own : List Nat) (tt : DTT) (te : DTE) (chk : DH → Prop) (env : DEnv) (Q : List D → DH → Prop) : List D → List D → DH → Prop
  | [], acc, h => chk h ∧ Q acc h
  | x :: r, acc, h => chk h ∧ dTg g x (wipeD env own) fun env' => tt env' h fun b h1 => iteB b (te env' h1 fun y h2 => acc.length < sizeLine ∧ dComp g own tt te chk env Q r (acc ++ [y]) h2) (dComp g own tt te chk env Q r acc h1)
def dLc (di : DTI) (g : Tgt) (own : List Nat) (tt : DTT) (te : DTE) : DTA := fun env h Q => di env h fun items chk h1 => dComp g own tt te chk env Q items [] h1
def dYes : DTT := fun _ h Q => Q true h
def DTs (X : Cx) (G : Option (Hp × DH)) (ifs : List Expr) (t : DTT) : Prop := PTs X ifs (lT X.K X.mg G t)
section
variable {X : Cx} {G : Option (Hp × DH)}
theorem dts_nil : DTs X G [] dYes := ⟨fun pins s σ H Q I ⟨env, h, Q', g, er, hr, q, fin⟩ => pts_nil.run pins s σ H Q I (fin true H h Gr.refl hr q)⟩
theorem dts_one {c : Expr} {t : DTT} (h : DT X G c t) : DTs X G [c] t := pts_one h
theorem wipe_in {σ : L2.St} {i : Nat} : ∀ {vs : List Nat}, i ∈ vs → i < σ.length → (wipe σ vs)[i]? = some none
  | [], h, _ => by cases h
  | v :: vs, h, hl => by
    unfold wipe
    by_cases e : v = i
    · subst e; exact List.getElem?_set_self (by rw [wipe_length]; exact hl)
    · rw [List.getElem?_set_ne e]
      rcases List.mem_cons.mp h with z | z
      · exact absurd z.symm e
      · exact wipe_in z hl
theorem wipe_eq {σ τ : L2.St} {own : List Nat} (h1 : ∀ j, j ∉ own → τ[j]? = (wipe σ own)[j]?) (h2 : τ.length = (wipe σ own).length) : wipe τ own = wipe σ own := by
  apply List.ext_getElem?
  intro j
  by_cases hj : j ∈ own
  · by_cases hl : j < σ.length
    · rw [wipe_in hj hl, wipe_in hj (by rw [h2, wipe_length]; exact hl)]
    · rw [List.getElem?_eq_none (by rw [wipe_length, h2, wipe_length]; omega), List.getElem?_eq_none (by rw [wipe_length]; omega)]
  · rw [wipe_out hj, h1 j hj]
theorem er_wipe {K : PySem.W.Frag} {H : Hp} {env : DEnv} {σ : L2.St} (er : ER K H env σ) : ∀ own : List Nat, ER K H (wipeD env own) (wipe σ own)
  | [] => er
  | v :: vs => by
    have ih := er_wipe er vs
    refine ⟨?_, fun i d e => ?_⟩
    · show ((wipeD env vs).set v none).length = ((wipe σ vs).set v none).length
      rw [List.length_set, List.length_set]; exact ih.1
    · have e : ((wipeD env vs).set v none)[i]? = some (some d) := e
      show ∃ w, ((wipe σ vs).set v none)[i]? = some (some w) ∧ Rp K H d w
      by_cases hv : v = i
      · subst hv
        have hl : v < (wipeD env vs).length := by
          have := (List.getElem?_eq_some_iff.mp e).1
          rw [List.length_set] at this; exact this
        rw [List.getElem?_set_self hl] at e
        cases e
      · rw [List.getElem?_set_ne hv] at e ⊢
        exact ih.2 i d e
theorem comp_of {K : PySem.W.Frag} {mg : Str → Option Value} {di : DTI} {g : Tgt} {own : List Nat} {tt : DTT} {te : DTE} (hg : ∀ j ∈ g.slots, j ∈ own) {σ : L2.St} {H : Hp} {Q : VK} {env : DEnv} {h : DH} {Q' : List D → DH → Prop} (ga : anc K G H h) (er : ER K H env σ) (hr : HR K mg H h) (q : dLc di g own tt te env h Q')
    (fin : ∀ p H' ds vs h', Gr K H h H' h' → HR K mg H' h' → H' p = some (.lst vs) → RpL K H' ds vs → h' p = none → (∀ u, H p = some u → h p = none → False) → Q' ds h' → Q (.ref p) H') : tLc (lI K mg G di) (tgG K g) (lT K mg none tt) (lE K mg none te) own σ H Q := by
  refine ⟨env, h, _, ga, er, hr, q, fun J H1 items chk h1 k1 r1 ok q1 L nL => ?_⟩
  refine ⟨fun i m H2 => ∃ acc vs h2, Gr K H1 h1 H2 h2 ∧ HR K mg H2 h2 ∧ H2 L = some (.lst vs) ∧ RpL K H2 acc vs ∧ h2 L = none ∧ dComp g own tt te chk env Q' (items.drop i) acc h2 ∧ m = items.length - i ∧ i ≤ items.length,
    ⟨items.length, [], [], h1, Gr.under nL, r1.under nL, upd_same, RpL.nil, r1.free nL, q1, rfl, Nat.zero_le _⟩, ?_⟩
  rintro i m H2 ⟨acc, vs, h2, k2, r2, eL, l2, n2, q2, rfl, hi⟩
  by_cases hlt : i < items.length
  · rw [List.drop_eq_getElem_cons hlt] at q2
    obtain ⟨c2, q2⟩ := q2
    refine .inr ⟨ok.go i H2 h2 k2 r2 c2 hlt, fun H3 => ∃ acc vs h3, Gr K H1 h1 H3 h3 ∧ HR K mg H3 h3 ∧ H3 L = some (.lst vs) ∧ RpL K H3 acc vs ∧ h3 L = none ∧ dComp g own tt te chk env Q' (items.drop (i + 1)) acc h3,
      fun H3 ⟨acc, vs, h3, a1, a2, a3, a4, a5, a6⟩ => ⟨items.length - (i + 1), by omega, acc, vs, h3, a1, a2, a3, a4, a5, a6, rfl, hlt⟩, fun x H3 y => ?_⟩
    obtain ⟨k3, r3, d, e3, p3⟩ := ok.yld i H2 h2 x H3 k2 r2 c2 hlt y
    rw [List.getElem?_eq_getElem hlt] at e3
    cases e3
    have er3 : ER K H3 (wipeD env own) (wipe σ own) := er_wipe (er.mono (k1.trans (k2.trans k3))) own
    refine tg_of q2 p3 er3 fun env4 σ4 er4 o4 len4 q4 => ⟨wipe_eq (fun j hj => o4 j fun z => hj (hg j z)) len4, ?_⟩
    refine ⟨env4, h2, _, trivial, er4, r3, q4, fun b H4 h4 k4 r4 q5 => ?_⟩
    have k34 := k3.trans k4
    cases b with
    | false =>
      dsimp only
      rw [if_neg Bool.false_ne_true]
      exact ⟨acc, vs, h4, k2.trans k34, r4, (k34.fr L _ eL n2).1, RpL.mono k34 _ _ l2, (k34.fr L _ eL n2).2, q5⟩
    | true =>
      dsimp only
      rw [if_pos rfl]
      refine ⟨env4, h4, _, trivial, er4.mono k4, r4, q5, fun y2 H5 d5 h5 k5 r5 p5 q6 => ?_⟩
      have k35 := k34.trans k5
      obtain ⟨f1, f2⟩ := k35.fr L _ eL n2
      have l5 := RpL.mono k35 _ _ l2
      have m5 : Mut (H5 L) := by rw [f1]; trivial
      have t5 : TK K H5 (upd H5 L (.lst (vs ++ [y2]))) := TK.mut m5
      refine ⟨vs, f1, by rw [l5.length]; exact q6.1, acc ++ [d5], vs ++ [y2], h5, ?_, ?_, upd_same, ?_, f2, q6.2⟩
      · have k25 := k2.trans k35
        refine ⟨k25.tk.trans t5, fun b u e n => ?_⟩
        obtain ⟨e1, n1⟩ := k25.fr b u e n
        have ne : b ≠ L := fun z => by rw [z, nL] at e; cases e
        exact ⟨by rw [upd_ne ne]; exact e1, n1⟩
      · intro b o e
        have ne : b ≠ L := fun z => by rw [z, f2] at e; cases e
        exact (r5 b o e).monoT t5 fun u q => by rw [upd_ne ne]; exact q
      · exact RpL.monoT t5 _ _ (l5.append (RpL.cons p5 RpL.nil))
  · have e : i = items.length := by omega
    subst e
    rw [List.drop_length] at q2
    exact .inl ⟨ok.stop H2 h2 k2 r2 q2.1, fin L H2 acc vs h2 (k1.trans k2) r2 eL l2 n2 (fun u e z => by rw [(k1.fr L u e z).1] at nL; cases nL) q2.2⟩
variable {elt tg iter : Expr} {ifs : List Expr} {scope : Scope} {pos : Pos} {di : DTI} {g : Tgt} {tt : DTT} {te : DTE}
theorem ds_setLcV {i : Nat} {y : Str} {py spos : Pos} (own : List (Str × Nat)) (hc : X.calm = true) (hN : X.N.Nodup) (hy : X.N[i]? = some y) (hyl : X.env.scope.names.lookup y = some .local)
    (hsw : swapsWith (.ListComp elt [⟨tg, iter, ifs, 0⟩] scope pos) (some (.Name y py)) spos.line X.env = pure true) (hi : DI X G tg iter di) (ok : BlkOk X.N X.env.scope scope own) (hs0 : ∀ j ∈ g.slots, j ∈ own.map (·.2))
    (hg : ∀ (s : Shared) (H : Hp) (C : Addr) (cl : List (Str × Addr)) (fp : List Addr), PG (X.blk s H scope (compEnvC scope cl C X.env) fp) tg (tgG X.K g))
    (ht : ∀ (s : Shared) (H : Hp) (C : Addr) (cl : List (Str × Addr)) (fp : List Addr), DTs (X.blk s H scope (compEnvC scope cl C X.env) fp) none ifs tt)
    (he : ∀ (s : Shared) (H : Hp) (C : Addr) (cl : List (Str × Addr)) (fp : List Addr), DE (X.blk s H scope (compEnvC scope cl C X.env) fp) none elt te) (hs : ∀ x, foldedSetIterable iter X.env x = pure x := by intro _; rfl) :
    DS X G (.Assign [.Name y py] (.ListComp elt [⟨tg, iter, ifs, 0⟩] scope pos) spos) (dAsg i (dNewV (dLc di g (own.map (·.2)) tt te))) :=
  PS.of (PS.seal (ps_setLc (tt := lT X.K X.mg none tt) (te := lE X.K X.mg none te) hc hN hy hyl hsw hi ok hg ht he hs)) fun E σ H ⟨env, h, E', ga, er, hr, q, nx, _⟩ => comp_of hs0 ga er hr q fun l H' ds vs h' k r1 e1 l2 n nw q2 hp ho => by
    obtain ⟨H2, f, k2, r2, p2⟩ := newV_fin k r1 e1 l2 n nw ho
    exact ⟨H2, f, nx _ H2 _ _ k2 ((er.mono k2).set i p2) r2 q2⟩
theorem dl_comp (own : List (Str × Nat)) (hc : X.calm = true) (hN : X.N.Nodup) (hi : DI X G tg iter di) (ok : BlkOk X.N X.env.scope scope own) (hs0 : ∀ j ∈ g.slots, j ∈ own.map (·.2))
    (hg : ∀ (s : Shared) (H : Hp) (C : Addr) (cl : List (Str × Addr)) (fp : List Addr), PG (X.blk s H scope (compEnvC scope cl C X.env) fp) tg (tgG X.K g))
    (ht : ∀ (s : Shared) (H : Hp) (C : Addr) (cl : List (Str × Addr)) (fp : List Addr), DTs (X.blk s H scope (compEnvC scope cl C X.env) fp) none ifs tt)
    (he : ∀ (s : Shared) (H : Hp) (C : Addr) (cl : List (Str × Addr)) (fp : List Addr), DE (X.blk s H scope (compEnvC scope cl C X.env) fp) none elt te) (hs : ∀ x, foldedSetIterable iter X.env x = pure x := by intro _; rfl) :
    DLs X G (.ListComp elt [⟨tg, iter, ifs, 0⟩] scope pos) (dLc di g (own.map (·.2)) tt te) :=
  PE.of (pe_lc (tt := lT X.K X.mg none tt) (te := lE X.K X.mg none te) hc hN hi ok hg ht he hs) fun σ H Q ⟨env, h, Q', ga, er, hr, q, fin⟩ => comp_of hs0 ga er hr q fin
theorem ds_setLc {i : Nat} {y : Str} {py spos : Pos} (own : List (Str × Nat)) (hc : X.calm = true) (hN : X.N.Nodup) (hy : X.N[i]? = some y) (hyl : X.env.scope.names.lookup y = some .local)
    (hsw : swapsWith (.ListComp elt [⟨tg, iter, ifs, 0⟩] scope pos) (some (.Name y py)) spos.line X.env = pure true) (hi : DI X G tg iter di) (ok : BlkOk X.N X.env.scope scope own) (hs0 : ∀ j ∈ g.slots, j ∈ own.map (·.2))
    (hg : ∀ (s : Shared) (H : Hp) (C : Addr) (cl : List (Str × Addr)) (fp : List Addr), PG (X.blk s H scope (compEnvC scope cl C X.env) fp) tg (tgG X.K g))
    (ht : ∀ (s : Shared) (H : Hp) (C : Addr) (cl : List (Str × Addr)) (fp : List Addr), DTs (X.blk s H scope (compEnvC scope cl C X.env) fp) none ifs tt)
    (he : ∀ (s : Shared) (H : Hp) (C : Addr) (cl : List (Str × Addr)) (fp : List Addr), DE (X.blk s H scope (compEnvC scope cl C X.env) fp) none elt te) (hs : ∀ x, foldedSetIterable iter X.env x = pure x := by intro _; rfl) :
    DS X G (.Assign [.Name y py] (.ListComp elt [⟨tg, iter, ifs, 0⟩] scope pos) spos) (dAsg i (dNew (dLc di g (own.map (·.2)) tt te))) :=
  PS.of (ps_setLc (tt := lT X.K X.mg none tt) (te := lE X.K X.mg none te) hc hN hy hyl hsw hi ok hg ht he hs) fun E σ H ⟨env, h, E', ga, er, hr, q, nx, _⟩ => comp_of hs0 ga er hr q fun l H' ds vs h' k r1 e1 l2 n nw q2 => nx _ H' _ _ ⟨k.tk, fun b u e z => by
    obtain ⟨z1, z2⟩ := k.fr b u e z
    refine ⟨z1, ?_⟩
    by_cases hb : b = l
    · subst hb; exact (nw u e z).elim
    · rw [up_ne hb]; exact z2⟩ ((er.mono k).set i (by unfold Rp; rfl)) (r1.told e1 l2) (q2 l n)
end
/-! ### defs -/
abbrev DSp := List D → DH → DK → DX → Prop
def lX (K : PySem.W.Frag) (mg : Str → Option Value) (G : Option (Hp × DH)) (E : DX) : XK := fun c dx H' => ∃ nm C fs h', c = .ref C ∧ PySem.W.nsIn K mainGlobals nm = some (some (.ref C)) ∧ anc K G H' h' ∧ HR K mg H' h' ∧ XF H' dx fs ∧ E nm fs h'
/-- .. with the slots as they stand then -/
def lW (K : PySem.W.Frag) (mg : Str → Option Value) (G : Option (Hp × DH)) (E : DXE) : WX := fun c dx σ H => ∃ env, ER K H env σ ∧ lX K mg G (E env) c dx H
def lSp (K : PySem.W.Frag) (mg : Str → Option Value) (n : Nat) (S : DSp) : Sp := fun vs H Q E => ∃ ds h Q' E', ds.length = n ∧ RpL K H ds vs ∧ HR K mg H h ∧ S ds h Q' E' ∧
  (∀ v H' d h', Gr K H h H' h' → HR K mg H' h' → Rp K H' d v → Q' d h' → Q v H') ∧ ∀ c dx H', lX K mg (some (H, h)) E' c dx H' → E c dx H'
/-- what is told may be forgotten -/
def wk (Q : DK) : DK := fun d h => ∃ d' h', Sl h d d' h' ∧ Q d' h'
theorem HR.sub {K : PySem.W.Frag} {mg : Str → Option Value} {H : Hp} {h h' : DH} (r : HR K mg H h) (s : ∀ a o, h' a = some o → h a = some o) : HR K mg H h' := fun a o e => r a o (s a o e)
def startD (n : Nat) (ds : List D) : DEnv := ds.map some ++ List.replicate (n - ds.length) none
def wkX (E : DX) : DX := fun nm fs h => ∃ h', (∀ a o, h' a = some o → h a = some o) ∧ E nm fs h'
theorem lX_wk {K : PySem.W.Frag} {mg : Str → Option Value} {G : Option (Hp × DH)} {E : DX} {c : Value} {dx : Option Addr} {H : Hp} (z : lX K mg G (wkX E) c dx H) : lX K mg G E c dx H := by
  obtain ⟨nm, C, fs, h1, e1, e2, a, r, x, h2, s, q⟩ := z
  refine ⟨nm, C, fs, h2, e1, e2, ?_, r.sub s, x, q⟩
  cases G with
  | none => trivial
  | some g => exact Gr.less a s
def dFn (n : Nat) (body : DXE → DTS) : DSp := fun ds h Q E => body (fun _ => wkX E) ⟨fun _ h' => wk Q .non h', wk Q, fun _ _ => False, fun _ _ => False⟩ (startD n ds) h
theorem er_start {K : PySem.W.Frag} {H : Hp} {N : List Str} {ds : List D} {vs : List V} (l : RpL K H ds vs) : ER K H (startD N.length ds) (L2.start N vs) := by
  have hl := l.length
  refine ⟨by unfold startD L2.start; simp [hl], fun i d e => ?_⟩
  unfold startD at e
  by_cases hi : i < ds.length
  · rw [List.getElem?_append_left (by simpa using hi), List.getElem?_map] at e
    cases e2 : ds[i]? with
    | none => rw [e2] at e; cases e
    | some x =>
      rw [e2] at e
      cases e
      obtain ⟨v, e3, r⟩ := l.get e2
      refine ⟨v, ?_, r⟩
      unfold L2.start
      rw [List.getElem?_append_left (by simpa [hl] using hi), List.getElem?_map, e3]
      rfl
  · rw [List.getElem?_append_right (by simpa using hi), List.getElem?_replicate] at e
    split at e <;> cases e
section
variable {P : Program} {w : World} {K : PySem.W.Frag} {mg : Str → Option Value} {base : Heap}
/-- a def's end: lists become values -/
theorem fn_seal {CX : CXT} {k : Nat} {f : Addr} {fd : FuncData} {ps : List Str} {sp : Sp} (F : FnOk P w K mg base CX k f fd ps sp) : FnOk P w K mg base CX k f fd ps (fun vs H Q E => sp vs H (slQ P w Q) E) :=
  ⟨fun vs H Q E q => F.len _ _ _ _ q, fun A outer s H args us vs Q E hr he hb hv hs => codeAny_mono (F.run A outer s H args us vs (slQ P w Q) E hr he hb hv hs) fun r s' z => by
    cases r with
    | error e => exact z
    | ok x =>
      cases x with
      | ret u =>
        obtain ⟨v, H', os, ba, un, ho, rv, q⟩ := z
        obtain ⟨H2, g, q2⟩ := q s'.heap ho
        exact ⟨v, H2, os, ba, g.un un, g.hok ho, rv, q2⟩
      | _ => exact z⟩
/-- a def's reading, nothing forgotten -/
def dFn0 (n : Nat) (body : DXE → DTS) : DSp := fun ds h Q E => body (fun _ => wkX E) ⟨fun _ h' => Q .non h', Q, fun _ _ => False, fun _ _ => False⟩ (startD n ds) h
theorem fn_ok {x qual : Str} {st : Stmt} {f : Addr} {fd : FuncData} {N ps : List Str} {k : Nat} {body : DXE → DTS} (F : Fun K x qual st f fd) (S : FnScope N ps (defScope st))
    (hb : ∀ (X : Cx) (G : Option (Hp × DH)) (E' : DX), X.prog = P → True → ∀ (cdv : Value) (A : Around) (outer : List Env) (s : Shared) (H : Hp) (E : XK), X = cxOf (L2.CX P w) P w K mg base N qual (defScope st) f cdv A outer s H E → Room k X.A → Takes X (lW K mg G fun _ => E') → DSs X G (defBody st) (body fun _ => E')) :
    FnOk P w K mg base (L2.CX P w) (k + 1) f fd ps (lSp K mg ps.length (dFn N.length body)) := by
  have F0 : FnOk P w K mg base (L2.CX P w) (k + 1) f fd ps (lSp K mg ps.length (dFn0 N.length body)) := by
    refine F.okX S (fun vs H Q E ⟨ds, h, Q', E', hl, l, _⟩ => by rw [l.length]; exact hl) (fun cdv A outer s H vs Q E hr hq => ?_)
    obtain ⟨ds, h, Q', E', hl, l, r, q, fin, fx⟩ := hq
    refine ⟨_, hb _ (some (H, h)) (wkX E') rfl trivial cdv A outer s H E rfl hr (Takes.imp (takes_of rfl rfl rfl rfl) fun c d σ H' ⟨_, _, z⟩ => fx c d H' (lX_wk z)), ?_⟩
    refine ⟨startD N.length ds, h, _, Gr.refl, er_start l, r, q, fun σ' H' env' h' k' er' r' q2 => fin _ H' .non h' k' r' (by unfold Rp; rfl) q2, fun v H' d h' k' r' p' q2 => fin v H' d h' k' r' p' q2, fun _ _ _ _ _ _ _ z => z.elim, fun _ _ _ _ _ _ _ z => z.elim⟩
  refine FnOk.imp (fn_seal F0) fun vs H Q E ⟨ds, h, Q', E', hl, l, r, q, fin, fx⟩ => ⟨ds, h, wk Q', E', hl, l, r, q, fun v H' d h' k' r' p' ⟨d2, h2, sl, q2⟩ hp ho => ?_, fx⟩
  obtain ⟨H2, g, k2, r2, p2⟩ := sl.fin r' p' ho
  exact ⟨H2, g, fin v H2 d2 h2 (k'.trans k2) r2 p2 q2⟩
end
end DL
set_option Elab.async false
set_option linter.all false
set_option maxRecDepth 100000
set_option maxHeartbeats 4000000
namespace DL
open PySem PySem.Spec PyProof.Rows L2
/-! ### operators on whole numbers -/
def rInt (C : Int → Int → Prop) (f : Int → Int → D) : DR2 := fun d e h Q => asI d fun i => asI e fun j => C i j ∧ Q (f i j) h
def rInt0 (f : Int → Int → D) : DR2 := fun d e h Q => asI d fun i => asI e fun j => Q (f i j) h
section
variable {X : Cx}
theorem dop_int {f : Value → Value → Sem Value} {C : Int → Int → Prop} {g : Int → Int → V} {g' : Int → Int → D} (op : OpR X f (rI C g)) (r : ∀ H i j, Rp X.K H (g' i j) (g i j)) : DOp X f (rInt C g') := by
  intro pins s σ H x y v u Q I rx ry ⟨d, e, h, Q', hr, p1, p2, q, fin⟩
  obtain ⟨i, rfl, rfl, q⟩ := asI_of (show asI d fun i => asI e fun j => C i j ∧ Q' (g' i j) h from q) p1
  obtain ⟨j, rfl, rfl, c, q⟩ := asI_of (d := e) q p2
  exact op pins s σ H _ _ v u Q I rx ry ⟨i, j, rfl, rfl, c, fin _ H _ h Gr.refl hr (r H i j) q⟩
theorem dop_int0 {f : Value → Value → Sem Value} {g : Int → Int → V} {g' : Int → Int → D} (op : OpR X f (rI0 g)) (r : ∀ H i j, Rp X.K H (g' i j) (g i j)) : DOp X f (rInt0 g') := by
  intro pins s σ H x y v u Q I rx ry ⟨d, e, h, Q', hr, p1, p2, q, fin⟩
  obtain ⟨i, rfl, rfl, q⟩ := asI_of (show asI d fun i => asI e fun j => Q' (g' i j) h from q) p1
  obtain ⟨j, rfl, rfl, q⟩ := asI_of (d := e) q p2
  exact op pins s σ H _ _ v u Q I rx ry ⟨i, j, rfl, rfl, fin _ H _ h Gr.refl hr (r H i j) q⟩
def rSubI : DR2 := rInt0 fun i j => .int (i - j)
def rModI : DR2 := rInt (fun _ j => 0 < j) fun i j => .int (i % j)
def rDivI : DR2 := rInt CDivW fun i j => .int (i / j)
def rPowI : DR2 := rInt CPow fun i j => .int (i ^ j.toNat)
def rLtI : DR2 := rInt0 fun i j => .bl (decide (i < j))
def rLeI : DR2 := rInt0 fun i j => .bl (decide (i ≤ j))
def rGtI : DR2 := rInt0 fun i j => .bl (decide (j < i))
def rGeI : DR2 := rInt0 fun i j => .bl (decide (j ≤ i))
theorem d_sub : DOp X (binaryOp .Sub) rSubI := dop_int0 op_sub fun _ _ _ => by unfold Rp; rfl
theorem d_mod : DOp X (binaryOp .Mod) rModI := dop_int op_mod fun _ _ _ => by unfold Rp; rfl
theorem d_div : DOp X (binaryOp .FloorDiv) rDivI := dop_int op_fdivW fun _ _ _ => by unfold Rp; rfl
theorem d_pow : DOp X (binaryOp .Pow) rPowI := dop_int op_pow fun _ _ _ => by unfold Rp; rfl
theorem d_lt : DOp X (compareOp .Lt) rLtI := dop_int0 op_lt fun _ _ _ => by unfold Rp; rfl
theorem d_le : DOp X (compareOp .LtE) rLeI := dop_int0 op_le fun _ _ _ => by unfold Rp; rfl
theorem d_gt : DOp X (compareOp .Gt) rGtI := dop_int0 op_gt fun _ _ _ => by unfold Rp; rfl
theorem d_ge : DOp X (compareOp .GtE) rGeI := dop_int0 op_ge fun _ _ _ => by unfold Rp; rfl
/-! + and * -/
/-- the things of a value list or a told one -/
def lsOf (h : DH) : D → Option (List D)
  | .frz ds => some ds
  | .ref a => (match h a with
    | some (.lst ds) => some ds
    | _ => none)
  | _ => none
def rAddD : DR2
  | .int i, .int j, h, Q => Q (.int (i + j)) h
  | .str x, .str y, h, Q => x.length + y.length ≤ sizeLine ∧ Q (.str (x ++ y)) h
  | .tup a, .tup b, h, Q => a.length + b.length ≤ sizeLine ∧ Q (.tup (a ++ b)) h
  | .ref a, .ref b, h, Q => lstAt (h a) fun xs => lstAt (h b) fun ys => xs.length + ys.length ≤ sizeLine ∧ Q (.frz (xs ++ ys)) h
  | .frz xs, .frz ys, h, Q => xs.length + ys.length ≤ sizeLine ∧ Q (.frz (xs ++ ys)) h
  | .frz xs, .ref b, h, Q => lstAt (h b) fun ys => xs.length + ys.length ≤ sizeLine ∧ Q (.frz (xs ++ ys)) h
  | .ref a, .frz ys, h, Q => lstAt (h a) fun xs => xs.length + ys.length ≤ sizeLine ∧ Q (.frz (xs ++ ys)) h
  | _, _, _, _ => False
theorem lstAt_of {o : Option DO} {k : List D → Prop} (q : lstAt o k) : ∃ ds, o = some (.lst ds) ∧ k ds := by
  cases o with
  | none => exact q.elim
  | some o =>
    cases o with
    | lst ds => exact ⟨ds, rfl, q⟩
    | _ => exact q.elim
/-- a list that is told or a value -/
theorem Inv.sqf {pins : List (Addr × Obj)} {σ : L2.St} {H : Hp} {s : Shared} {l : Addr} {xs : List V} (I : Inv X pins σ H s) (q : Rd H l (.lst xs)) : xs.length ≤ sizeLine ∧ ∃ (its : List Value) (n : Nat), Vals xs its ∧ its.length = xs.length ∧ s.heap.get? l = some { cls := .type "list", data := .seq its.toArray n } := by
  obtain ⟨z, its, n, r, e⟩ := q.ok I.hok
  exact ⟨z, its, n, r, r.length.symm, e⟩
/-- lists joined, whether told or values -/
def rCatR : R2 := fun x y H Q => ∃ l b xs zs, x = .ref l ∧ y = .ref b ∧ Rd H l (.lst xs) ∧ Rd H b (.lst zs) ∧ xs.length + zs.length ≤ sizeLine ∧ ∀ p, H p = none → Q (.ref p) (upd H p (.lst (xs ++ zs)))
theorem op_catR : OpR X (binaryOp .Add) rCatR := by
  rintro pins s σ H _ _ v u Q I rx ry ⟨l, b, xs, zs, rfl, rfl, q1, q2, hz, q⟩
  cases rx
  cases ry
  obtain ⟨_, i1, n1, r1, l1, e1⟩ := Inv.sqf I q1
  obtain ⟨_, i2, n2, r2, l2, e2⟩ := Inv.sqf I q2
  refine PySem.P.add_list e1 e2 ?_ (by rw [List.size_toArray, List.size_toArray, l1, l2]; exact hz)
  rw [show i1.toArray ++ i2.toArray = (i1 ++ i2).toArray from by simp]
  exact ⟨.ref _, _, I.lnew (t' := s.toks) (r1.append r2) (by rw [List.length_append]; exact hz), rfl, q _ I.fresh⟩
theorem catV_of {pins : List (Addr × Obj)} {s : Shared} {σ : L2.St} {H : Hp} {h : DH} {Q : VK} {Q' : DK} {v u : Value} {l b : Addr} {xs ys : List D} {vs us : List V} (I : Inv X pins σ H s) (rx : RelV (.ref l) v) (ry : RelV (.ref b) u) (hr : HR X.K X.mg H h) (q1 : Rd H l (.lst vs)) (q2 : Rd H b (.lst us)) (l1 : RpL X.K H xs vs) (l2 : RpL X.K H ys us)
    (hz : xs.length + ys.length ≤ sizeLine) (q : Q' (.frz (xs ++ ys)) h) (fin : ∀ v H' d' h', Gr X.K H h H' h' → HR X.K X.mg H' h' → Rp X.K H' d' v → Q' d' h' → Q v H') : wpAny (model X.prog X.w) X.A (binaryOp .Add v u) (EP X pins σ Q) X.xe s :=
  thn (op_catR pins s σ H _ _ v u (slQ X.prog X.w Q) I rx ry ⟨l, b, vs, us, rfl, rfl, q1, q2, by rw [l1.length, l2.length]; exact hz, fun p n hp ok => by
    obtain ⟨H2, f, k2, r2, p2⟩ := laidV hr n (l1.append l2) ok
    exact ⟨H2, f, fin _ H2 _ h k2 r2 p2 q⟩⟩) fun _ _ z => EP.seal z
theorem d_add : DOp X (binaryOp .Add) rAddD := by
  intro pins s σ H x y v u Q I rx ry ⟨d, e, h, Q', hr, p1, p2, q, fin⟩
  cases d with
  | int i =>
    cases e with
    | int j =>
      unfold Rp at p1 p2
      exact op_add pins s σ H x y v u Q I rx ry ⟨i, j, p1, p2, fin _ H (.int (i + j)) h Gr.refl hr (by unfold Rp; rfl) q⟩
    | _ => exact q.elim
  | str i =>
    cases e with
    | str j =>
      unfold Rp at p1 p2
      exact op_add_str pins s σ H x y v u Q I rx ry ⟨i, j, p1, p2, q.1, fin _ H (.str (i ++ j)) h Gr.refl hr (by unfold Rp; rfl) q.2⟩
    | _ => exact q.elim
  | tup a =>
    cases e with
    | tup b =>
      unfold Rp at p1 p2
      obtain ⟨a1, vs, rfl, s1, l1⟩ := p1
      obtain ⟨b1, us, rfl, s2, l2⟩ := p2
      refine op_catA pins s σ H _ _ v u Q I rx ry ⟨a1, b1, vs, us, rfl, rfl, s1, s2, by rw [l1.length, l2.length]; exact q.1, fun e => ?_, fun _ e => ?_, fun _ _ p n => ?_⟩
      · subst e
        have ea : a = [] := List.eq_nil_of_length_eq_zero (l1.length.symm.trans rfl)
        subst ea
        exact fin _ H (.tup b) h Gr.refl hr (by unfold Rp; exact ⟨b1, us, rfl, s2, l2⟩) q.2
      · subst e
        have eb : b = [] := List.eq_nil_of_length_eq_zero (l2.length.symm.trans rfl)
        subst eb
        exact fin _ H (.tup a) h Gr.refl hr (by unfold Rp; exact ⟨a1, vs, rfl, s1, l1⟩) (by have z := q.2; rw [List.append_nil] at z; exact z)
      · exact fin _ _ (.tup (a ++ b)) h (Gr.under n) (hr.under n) (by unfold Rp; exact ⟨p, vs ++ us, rfl, SqT.of upd_same, RpL.monoT (TK.new n) _ _ (l1.append l2)⟩) q.2
    | _ => exact q.elim
  | frz xs =>
    unfold Rp at p1
    obtain ⟨a, vs, rfl, s1, l1⟩ := p1
    cases e with
    | frz ys =>
      unfold Rp at p2
      obtain ⟨b, us, rfl, s2, l2⟩ := p2
      exact catV_of I rx ry hr (.inr s1) (.inr s2) l1 l2 q.1 q.2 fin
    | ref b =>
      unfold Rp at p2
      subst p2
      obtain ⟨ys, e1, q⟩ := lstAt_of (show lstAt (h b) fun ys => xs.length + ys.length ≤ sizeLine ∧ Q' (.frz (xs ++ ys)) h from q)
      obtain ⟨us, f2, l2⟩ := hr.lst e1
      exact catV_of I rx ry hr (.inr s1) (.inl f2) l1 l2 q.1 q.2 fin
    | _ => exact q.elim
  | ref a =>
    cases e with
    | frz ys =>
      unfold Rp at p1 p2
      subst p1
      obtain ⟨b, us, rfl, s2, l2⟩ := p2
      obtain ⟨xs, e1, q⟩ := lstAt_of (show lstAt (h a) fun xs => xs.length + ys.length ≤ sizeLine ∧ Q' (.frz (xs ++ ys)) h from q)
      obtain ⟨vs, f1, l1⟩ := hr.lst e1
      exact catV_of I rx ry hr (.inl f1) (.inr s2) l1 l2 q.1 q.2 fin
    | ref b =>
      unfold Rp at p1 p2
      subst p1
      subst p2
      have q : lstAt (h a) fun xs => lstAt (h b) fun ys => xs.length + ys.length ≤ sizeLine ∧ Q' (.frz (xs ++ ys)) h := q
      obtain ⟨xs, e1, q⟩ := lstAt_of q
      obtain ⟨ys, e2, q⟩ := lstAt_of q
      obtain ⟨vs, f1, l1⟩ := hr.lst e1
      obtain ⟨us, f2, l2⟩ := hr.lst e2
      exact catV_of I rx ry hr (.inl f1) (.inl f2) l1 l2 q.1 q.2 fin
    | _ => exact q.elim
  | _ => exact q.elim
theorem RpL.rep {K : PySem.W.Frag} {H : Hp} {ds : List D} {vs : List V} (l : RpL K H ds vs) : ∀ n : Nat, RpL K H (List.replicate n ds).flatten (List.replicate n vs).flatten
  | 0 => RpL.nil
  | n + 1 => by
    rw [List.replicate_succ, List.replicate_succ, List.flatten_cons, List.flatten_cons]
    exact l.append (RpL.rep l n)
section
variable {X : Cx}
/-- t * 1 is t -/
theorem tuple_mul1 (l : Addr) (items : Array Value) (n : Nat) (dd : Option Addr) (sl : Array (Option Value)) (u : Tok) :
    Meets (Builtin.«tuple.__mul__» ⟨[.ref l, .int 1 u], []⟩) (fun _ R s => s.heap.get? l = some { cls := .type "tuple", dict := dd, data := .seq items n, slots := sl } ∧ R (.ok (.ret (Value.ref l))) s) :=
  .of_wp fun prog w A R s h => by
    obtain ⟨hp, g, d, tk, os⟩ := s
    obtain ⟨hl, h⟩ := h
    have f1 := AutoSeq1.idx_int
    have c0 : (decide ((1 : Int) < -(2 ^ 63)) || decide ((1 : Int) ≥ 2 ^ 63)) = false := by decide
    have c1 : (items.isEmpty || (1 : Int) == 1) = true := by simp
    wp_walk using wpAny_loadPart' hl
    repeat (first
      | (refine wpAny_ite_false (decide_eq_false (by rw [c0]; exact Bool.false_ne_true)) ?_; wp_walk using wpAny_loadPart' hl)
      | (refine wpAny_ite_true (decide_eq_true c1) ?_; wp_walk using wpAny_loadPart' hl))
    exact ⟨_, rfl, h⟩
def rRepT1 (K : PySem.W.Frag) : R2 := fun x y H Q => ∃ l xs, x = .ref l ∧ y = .int 1 ∧ SqT K H l xs ∧ Q (.ref l) H
theorem op_repT1 : OpR X (binaryOp .Mult) (rRepT1 X.K) := by
  intro pins s σ H x y v u Q I rx ry h
  obtain ⟨l, xs, rfl, rfl, hT, q⟩ := h
  cases rx
  obtain ⟨t, rfl⟩ := ry
  obtain ⟨its, r, ⟨⟨cls, dd, data, sl⟩, ho, hc, n, hd⟩, hs⟩ := I.tuple hT
  simp only at hc hd
  subst hc hd
  refine wpAny_binaryOp_repeat_ref (T := "tuple") (U := "int") (by decide) ⟨_, ho, rfl⟩ (fun s' => typeIs_int s' 1 t) noFill_tuple_mul F.fills_int_mul F.slot_int_rmul repeat_tuple F.slot_int_index.lookup
    (call_meets F.slot_int_rmul (typeIs_int s 1 t) F.entry_int_rmul (F.args_int_rmul_2 _ _) (int_rmul_tuple 1 t l its.toArray n dd sl)
      ⟨ho, rfl, ⟨_, ho, rfl⟩, call_meets F.slot_tuple_mul ⟨_, ho, rfl⟩ F.entry_tuple_mul (F.args_tuple_mul_2 _ _) (tuple_mul1 l its.toArray n dd sl t) ⟨ho, ?_⟩⟩)
  exact ⟨.ref l, H, I, rfl, q⟩
end
def rMulD : DR2
  | .int i, .int j, h, Q => CMulW i j ∧ Q (.int (i * j)) h
  | .str x, .int k, h, Q => MulOk x k ∧ Q (.str (Txt.mul x k)) h
  | .tup a, .int k, h, Q => (a ≠ [] ∧ 1 ≤ k ∧ k ≤ 1000 ∧ a.length ≤ 1000) ∧ Q (.tup (List.replicate k.toNat a).flatten) h
  | .ref a, .int k, h, Q => lstAt (h a) fun xs => (-(2 ^ 63) ≤ k ∧ k < 2 ^ 63 ∧ xs.length * k.toNat ≤ sizeLine) ∧ Q (.frz (List.replicate k.toNat xs).flatten) h
  | .frz xs, .int k, h, Q => (-(2 ^ 63) ≤ k ∧ k < 2 ^ 63 ∧ xs.length * k.toNat ≤ sizeLine) ∧ Q (.frz (List.replicate k.toNat xs).flatten) h
  | _, _, _, _ => False
/-- a list many times, whether told or a value -/
def rRepR : R2 := fun x y H Q => ∃ l k xs, x = .ref l ∧ y = .int k ∧ Rd H l (.lst xs) ∧ -(2 ^ 63) ≤ k ∧ k < 2 ^ 63 ∧ xs.length * k.toNat ≤ sizeLine ∧ ∀ p, H p = none → Q (.ref p) (upd H p (.lst (List.replicate k.toNat xs).flatten))
theorem rep_arr (its : List Value) (k : Nat) : List.foldl (fun a b => a ++ b) #[] (List.replicate (if its.toArray.isEmpty = true then 0 else k) its.toArray) = (List.replicate k its).flatten.toArray := by
  cases its with
  | nil => simp
  | cons z r' =>
    rw [if_neg (by simp)]
    have := foldl_rep (z :: r') k []
    rw [List.nil_append] at this
    exact this
theorem op_repR : OpR X (binaryOp .Mult) rRepR := by
  rintro pins s σ H _ _ v u Q I rx ry ⟨l, k, xs, rfl, rfl, q1, g1, g2, hz, q⟩
  cases rx
  obtain ⟨t, rfl⟩ := ry
  obtain ⟨_, i1, n1, r1, l1, e1⟩ := Inv.sqf I q1
  have z1 : i1.toArray.size * k.toNat ≤ sizeLine := by rw [List.size_toArray, l1]; exact hz
  have z2 : ¬ i1.toArray.size * k.toNat > (2 ^ 63 - 1) / 8 := fun z => by
    have y : (sizeLine : Nat) ≤ (2 ^ 63 - 1) / 8 := by decide
    omega
  have z3 : ¬ (!Builtin.List.listFitsIndex k) = true := by rw [fitsIndex_both g1 g2]; exact Bool.false_ne_true
  have z4 : ¬ Builtin.List.listTooLong (i1.toArray.size * k.toNat) = true := by rw [notLongL z1]; exact Bool.false_ne_true
  refine wpAny_binaryOp_repeat_ref (T := "list") (by decide) ⟨_, e1, rfl⟩ (fun s2 => typeIs_int s2 k t)
    noFill_list_mul F.fills_int_mul F.slot_int_rmul repeat_list F.slot_int_index.lookup (U := "int")
    (call_meets F.slot_int_rmul (typeIs_int s k t) F.entry_int_rmul (F.args_int_rmul_2 _ _)
      (int___rmul___int_list k t l i1.toArray n1) ⟨e1, rfl, ⟨_, e1, rfl⟩, ?_⟩)
  refine call_meets F.slot_list_mul ⟨_, e1, rfl⟩ F.entry_list_mul (F.args_list_mul_2 _ _) (AutoListH.list___mul___list_int_3 l i1.toArray n1 k t z3 z2 z4) ⟨e1, ?_⟩
  rw [rep_arr]
  exact ⟨.ref _, _, I.lnew (t' := s.toks) (r1.rep _) (by rw [PyProof.Rows.lm_len_rep_flat, Nat.mul_comm]; exact hz), rfl, q _ I.fresh⟩
theorem repV_of {pins : List (Addr × Obj)} {s : Shared} {σ : L2.St} {H : Hp} {h : DH} {Q : VK} {Q' : DK} {v u : Value} {l : Addr} {k : Int} {xs : List D} {vs : List V} (I : Inv X pins σ H s) (rx : RelV (.ref l) v) (ry : RelV (.int k) u) (hr : HR X.K X.mg H h) (q1 : Rd H l (.lst vs)) (l1 : RpL X.K H xs vs)
    (g : -(2 ^ 63) ≤ k ∧ k < 2 ^ 63 ∧ xs.length * k.toNat ≤ sizeLine) (q : Q' (.frz (List.replicate k.toNat xs).flatten) h) (fin : ∀ v H' d' h', Gr X.K H h H' h' → HR X.K X.mg H' h' → Rp X.K H' d' v → Q' d' h' → Q v H') : wpAny (model X.prog X.w) X.A (binaryOp .Mult v u) (EP X pins σ Q) X.xe s :=
  thn (op_repR pins s σ H _ _ v u (slQ X.prog X.w Q) I rx ry ⟨l, k, vs, rfl, rfl, q1, g.1, g.2.1, by rw [l1.length]; exact g.2.2, fun p n hp ok => by
    obtain ⟨H2, f, k2, r2, p2⟩ := laidV hr n (l1.rep _) ok
    exact ⟨H2, f, fin _ H2 _ h k2 r2 p2 q⟩⟩) fun _ _ z => EP.seal z
theorem d_mul : DOp X (binaryOp .Mult) rMulD := by
  intro pins s σ H x y v u Q I rx ry ⟨d, e, h, Q', hr, p1, p2, q, fin⟩
  cases d with
  | int i =>
    cases e with
    | int j =>
      unfold Rp at p1 p2
      exact op_mulW pins s σ H x y v u Q I rx ry ⟨i, j, p1, p2, q.1, fin _ H (.int (i * j)) h Gr.refl hr (by unfold Rp; rfl) q.2⟩
    | _ => exact q.elim
  | str z =>
    cases e with
    | int k =>
      unfold Rp at p1 p2
      subst p1 p2
      obtain ⟨t, rfl⟩ := rx
      obtain ⟨t2, rfl⟩ := ry
      exact PySem.SB.mul q.1 fun t' k' => ⟨.str _, H, I.tok _, ⟨t', rfl⟩, fin _ H (.str _) h Gr.refl hr (by unfold Rp; rfl) q.2⟩
    | _ => exact q.elim
  | tup a =>
    cases e with
    | int k =>
      unfold Rp at p1 p2
      obtain ⟨a1, vs, rfl, s1, l1⟩ := p1
      obtain ⟨⟨g1, g2, g3, g4⟩, q⟩ := q
      by_cases k1 : k = 1
      · subst k1
        have e1 : (List.replicate (1 : Int).toNat a).flatten = a := by simp
        rw [e1] at q
        exact op_repT1 pins s σ H _ y v u Q I rx ry ⟨a1, vs, rfl, p2, s1, fin _ H (.tup a) h Gr.refl hr (by unfold Rp; exact ⟨a1, vs, rfl, s1, l1⟩) q⟩
      have g2 : 2 ≤ k := by omega
      refine op_repT pins s σ H _ y v u Q I rx ry ⟨a1, k, vs, rfl, p2, s1, fun e => ?_, g2, g3, by rw [l1.length]; exact g4, fun p n => ?_⟩
      · subst e
        exact g1 (List.eq_nil_of_length_eq_zero (l1.length.symm.trans rfl))
      · exact fin _ _ (.tup (List.replicate k.toNat a).flatten) h (Gr.under n) (hr.under n) (by unfold Rp; exact ⟨p, _, rfl, SqT.of upd_same, RpL.monoT (TK.new n) _ _ (l1.rep _)⟩) q
    | _ => exact q.elim
  | ref a =>
    cases e with
    | int k =>
      unfold Rp at p1 p2
      subst p1
      have q : lstAt (h a) fun xs => (-(2 ^ 63) ≤ k ∧ k < 2 ^ 63 ∧ xs.length * k.toNat ≤ sizeLine) ∧ Q' (.frz (List.replicate k.toNat xs).flatten) h := q
      obtain ⟨xs, e1, g, q⟩ := lstAt_of q
      obtain ⟨vs, f1, l1⟩ := hr.lst e1
      subst p2
      exact repV_of I rx ry hr (.inl f1) l1 g q fin
    | _ => exact q.elim
  | frz xs =>
    cases e with
    | int k =>
      unfold Rp at p1 p2
      obtain ⟨a, vs, rfl, s1, l1⟩ := p1
      subst p2
      exact repV_of I rx ry hr (.inr s1) l1 q.1 q.2 fin
    | _ => exact q.elim
  | _ => exact q.elim
/-! -x -/
def dUn (r : D → DH → DK → Prop) (t : DTE) : DTE := fun env h Q => t env h fun d h1 => r d h1 Q
def rNegI : D → DH → DK → Prop := fun d h Q => asI d fun i => Q (.int (-i)) h
theorem de_neg {G : Option (Hp × DH)} {a : Expr} {ta : DTE} {pos : Pos} (ha : DE X G a ta) : DE X G (.UnaryOp .USub a pos) (dUn rNegI ta) :=
  PE.of (pe_un un_neg ha) fun σ H Q ⟨env, h, Q', g, er, hr, q, fin⟩ => ⟨env, h, _, g, er, hr, q, fun v H1 d h1 k r p q1 => by
    obtain ⟨i, rfl, rfl, q2⟩ := asI_of q1 p
    exact ⟨i, rfl, fin _ H1 (.int (-i)) h1 k r (by unfold Rp; rfl) q2⟩⟩
/-! list + list, its things -/
def dCat (ta tb : DTA) : DTA := fun env h Q => ta env h fun xs h1 => tb env h1 fun ys h2 => xs.length + ys.length ≤ sizeLine ∧ Q (xs ++ ys) h2
end
/-! ### equality -/
def scalD : D → D → Bool
  | .non, .non => true | .non, .int _ => true | .int _, .non => true | .non, .bl _ => true | .bl _, .non => true | .non, .str _ => true | .str _, .non => true
  | .int _, .int _ => true | .bl _, .bl _ => true | .str _, .str _ => true
  | .int _, .str _ => true | .str _, .int _ => true | .bl _, .str _ => true | .str _, .bl _ => true
  | _, _ => false
def sameS : D → D → Bool
  | .non, .non => true
  | .int i, .int j => decide (i = j)
  | .bl i, .bl j => decide (i = j)
  | .str i, .str j => decide (i = j)
  | _, _ => false
mutual
inductive Dd (h : DH) : D → PyData → Prop
  | non : Dd h .non .none
  | bl (b : Bool) : Dd h (.bl b) (.bool b)
  | int (i : Int) : Dd h (.int i) (.int i)
  | str (x : Str) : Dd h (.str x) (.str x)
  | tup {ds : List D} {ps : List PyData} : DdL h ds ps → Dd h (.tup ds) (.tuple ps)
  | frz {ds : List D} {ps : List PyData} : DdL h ds ps → Dd h (.frz ds) (.list ps)
  | lst {a : Addr} {ds : List D} {ps : List PyData} : h a = some (.lst ds) → DdL h ds ps → Dd h (.ref a) (.list ps)
inductive DdL (h : DH) : List D → List PyData → Prop
  | nil : DdL h [] []
  | cons {d : D} {ds : List D} {p : PyData} {ps : List PyData} : Dd h d p → DdL h ds ps → DdL h (d :: ds) (p :: ps)
end
section
variable {K : PySem.W.Frag} {mg : Str → Option Value} {H : Hp} {h : DH}
mutual
theorem Dd.dp (hr : HR K mg H h) : ∀ (p : PyData) (d : D) (v : V), Dd h d p → Rp K H d v → Dp K H v p
  | .none, d, v, x, r => by cases x; unfold Rp at r; subst r; exact .non
  | .bool b, d, v, x, r => by cases x; unfold Rp at r; subst r; exact .bl b
  | .int b, d, v, x, r => by cases x; unfold Rp at r; subst r; exact .int b
  | .str b, d, v, x, r => by cases x; unfold Rp at r; subst r; exact .str b
  | .list ps, d, v, x, r => by
    cases x with
    | frz l =>
      unfold Rp at r
      obtain ⟨a, vs, rfl, s, l2⟩ := r
      exact .lst s.seq (DdL.dp hr ps _ vs l l2)
    | lst e l =>
      unfold Rp at r
      subst r
      obtain ⟨vs, f, l2⟩ := hr.lst e
      exact .lst (SqL.of f) (DdL.dp hr ps _ vs l l2)
  | .tuple ps, d, v, x, r => by
    cases x with
    | tup l =>
      unfold Rp at r
      obtain ⟨a, vs, rfl, s, l2⟩ := r
      exact .tup s (DdL.dp hr ps _ vs l l2)
  | .dict _, d, v, x, r => by cases x
theorem DdL.dp (hr : HR K mg H h) : ∀ (ps : List PyData) (ds : List D) (vs : List V), DdL h ds ps → RpL K H ds vs → DpAll K H vs ps
  | [], ds, vs, x, r => by cases x; unfold RpL at r; subst r; exact .nil
  | p :: ps, ds, vs, x, r => by
    cases x with
    | cons a b =>
      unfold RpL at r
      obtain ⟨v, t, rfl, r1, r2⟩ := r
      exact .cons (Dd.dp hr p _ v a r1) (DdL.dp hr ps _ t b r2)
end
end
def rEqD' (neg : Bool) : DR2 := fun d e h Q => iteB (scalD d e) (Q (.bl (xor neg (sameS d e))) h) (∃ p q, Dd h d p ∧ Dd h e q ∧ SeqAt.shaped p = true ∧ SeqAt.shaped q = true ∧ Q (.bl (xor neg (PyData.eqv p q))) h)
def rInD' (neg : Bool) : DR2
  | .str x, .str y, h, Q => ∃ c, x = ⟨#[c]⟩ ∧ Q (.bl (xor neg (decide (c ∈ y.cps.toList)))) h
  | d, e, h, Q => ∃ p ps, Dd h d p ∧ (Dd h e (.list ps) ∨ Dd h e (.tuple ps)) ∧ SeqAt.shaped p = true ∧ SeqAt.shaped (.list ps) = true ∧ Q (.bl (xor neg (ps.any fun z => PyData.eqv z p))) h
section
variable {X : Cx}
theorem scal_of {H : Hp} {d e : D} {x y : V} (p1 : Rp X.K H d x) (p2 : Rp X.K H e y) (c : scalD d e = true) : scal x y = true ∧ decide (x = y) = sameS d e := by
  cases d <;> cases e <;> first | (simp [scalD] at c; done) | (unfold Rp at p1 p2; subst p1; subst p2; exact ⟨rfl, by simp [sameS]⟩)
theorem d_eq (hu : X.A.units + 64 < cLine) : DOp X (compareOp .Eq) (rEqD' false) := by
  intro pins s σ H x y v u Q I rx ry ⟨d, e, h, Q', hr, p1, p2, q, fin⟩
  unfold rEqD' at q
  cases c : scalD d e with
  | true =>
    rw [c] at q
    obtain ⟨s1, s2⟩ := scal_of p1 p2 c
    exact op_eq pins s σ H x y v u Q I rx ry ⟨s1, by rw [s2]; exact fin _ H (.bl (sameS d e)) h Gr.refl hr (by unfold Rp; rfl) (by simpa [iteB] using q)⟩
  | false =>
    rw [c] at q
    obtain ⟨p, r, d1, d2, s1, s2, q⟩ := q
    exact op_eqD hu pins s σ H x y v u Q I rx ry ⟨p, r, d1.dp hr _ _ _ p1, d2.dp hr _ _ _ p2, s1, s2, fin _ H (.bl (PyData.eqv p r)) h Gr.refl hr (by unfold Rp; rfl) (by simpa using q)⟩
theorem d_ne (hu : X.A.units + 64 < cLine) : DOp X (compareOp .NotEq) (rEqD' true) := by
  intro pins s σ H x y v u Q I rx ry ⟨d, e, h, Q', hr, p1, p2, q, fin⟩
  unfold rEqD' at q
  cases c : scalD d e with
  | true =>
    rw [c] at q
    obtain ⟨s1, s2⟩ := scal_of p1 p2 c
    exact op_ne pins s σ H x y v u Q I rx ry ⟨s1, by rw [s2]; exact fin _ H (.bl (!sameS d e)) h Gr.refl hr (by unfold Rp; rfl) (by simpa [iteB] using q)⟩
  | false =>
    rw [c] at q
    obtain ⟨p, r, d1, d2, s1, s2, q⟩ := q
    exact op_neD hu pins s σ H x y v u Q I rx ry ⟨p, r, d1.dp hr _ _ _ p1, d2.dp hr _ _ _ p2, s1, s2, fin _ H (.bl (!PyData.eqv p r)) h Gr.refl hr (by unfold Rp; rfl) (by simpa using q)⟩
theorem d_in (hu : X.A.units + 65 < cLine) : DOp X (compareOp .In) (rInD' false) := by
  intro pins s σ H x y v u Q I rx ry ⟨d, e, h, Q', hr, p1, p2, q, fin⟩
  have deep : (∃ p ps, Dd h d p ∧ (Dd h e (.list ps) ∨ Dd h e (.tuple ps)) ∧ SeqAt.shaped p = true ∧ SeqAt.shaped (.list ps) = true ∧ Q' (.bl (xor false (ps.any fun z => PyData.eqv z p))) h) → wpAny (model X.prog X.w) X.A (compareOp .In v u) (EP X pins σ Q) X.xe s := by
    rintro ⟨p, ps, d1, d2, s1, s2, q⟩
    obtain ⟨as, r1⟩ := Dp.reads I p x v (d1.dp hr _ _ _ p1) rx
    have fin2 := fin (.bl (ps.any fun z => PyData.eqv z p)) H (.bl (ps.any fun z => PyData.eqv z p)) h Gr.refl hr (by unfold Rp; rfl) (by simpa using q)
    rcases d2 with d2 | d2
    · obtain ⟨bs, r2⟩ := Dp.reads I _ y u (d2.dp hr _ _ _ p2) ry
      exact SeqAt.in_list_reads r2 r1 (SeqAt.canLay_of_shaped s2) (SeqAt.canLay_of_shaped s1) (room_in_shaped s1 hu) ⟨.bl _, H, I, rfl, fin2⟩
    · obtain ⟨bs, r2⟩ := Dp.reads I _ y u (d2.dp hr _ _ _ p2) ry
      exact SeqAt.in_tuple_reads r2 r1 (SeqAt.canLay_of_shaped s2) (SeqAt.canLay_of_shaped s1) (room_in_shaped s1 hu) ⟨.bl _, H, I, rfl, fin2⟩
  cases d with
  | str a =>
    cases e with
    | str b =>
      unfold Rp at p1 p2
      obtain ⟨c, e, q⟩ := (show ∃ c, a = ⟨#[c]⟩ ∧ Q' (.bl (xor false (decide (c ∈ b.cps.toList)))) h from q)
      exact op_in_sign pins s σ H x y v u Q I rx ry ⟨c, b, by rw [p1, e], p2, fin _ H (.bl (decide (c ∈ b.cps.toList))) h Gr.refl hr (by unfold Rp; rfl) (by simpa using q)⟩
    | _ => exact deep q
  | _ => exact deep q
theorem d_notin (hu : X.A.units + 65 < cLine) : DOp X (compareOp .NotIn) (rInD' true) := by
  intro pins s σ H x y v u Q I rx ry ⟨d, e, h, Q', hr, p1, p2, q, fin⟩
  have deep : (∃ p ps, Dd h d p ∧ (Dd h e (.list ps) ∨ Dd h e (.tuple ps)) ∧ SeqAt.shaped p = true ∧ SeqAt.shaped (.list ps) = true ∧ Q' (.bl (xor true (ps.any fun z => PyData.eqv z p))) h) → wpAny (model X.prog X.w) X.A (compareOp .NotIn v u) (EP X pins σ Q) X.xe s := by
    rintro ⟨p, ps, d1, d2, s1, s2, q⟩
    obtain ⟨as, r1⟩ := Dp.reads I p x v (d1.dp hr _ _ _ p1) rx
    have fin2 := fin (.bl (!ps.any fun z => PyData.eqv z p)) H (.bl (!ps.any fun z => PyData.eqv z p)) h Gr.refl hr (by unfold Rp; rfl) (by simpa only [Bool.true_xor] using q)
    rcases d2 with d2 | d2
    · obtain ⟨bs, r2⟩ := Dp.reads I _ y u (d2.dp hr _ _ _ p2) ry
      exact SeqAt.notIn_list_reads r2 r1 (SeqAt.canLay_of_shaped s2) (SeqAt.canLay_of_shaped s1) (room_in_shaped s1 hu) ⟨.bl _, H, I, rfl, fin2⟩
    · obtain ⟨bs, r2⟩ := Dp.reads I _ y u (d2.dp hr _ _ _ p2) ry
      exact SeqAt.notIn_tuple_reads r2 r1 (SeqAt.canLay_of_shaped s2) (SeqAt.canLay_of_shaped s1) (room_in_shaped s1 hu) ⟨.bl _, H, I, rfl, fin2⟩
  cases d with
  | str a =>
    cases e with
    | str b =>
      unfold Rp at p1 p2
      obtain ⟨c, e, q⟩ := (show ∃ c, a = ⟨#[c]⟩ ∧ Q' (.bl (xor true (decide (c ∈ b.cps.toList)))) h from q)
      exact op_notIn_sign pins s σ H x y v u Q I rx ry ⟨c, b, by rw [p1, e], p2, fin _ H (.bl (!decide (c ∈ b.cps.toList))) h Gr.refl hr (by unfold Rp; rfl) (by simpa only [Bool.true_xor] using q)⟩
    | _ => exact deep q
  | _ => exact deep q
/-! is None, is True -/
def isNon : D → Bool
  | .non => true
  | _ => false
def rIsD (neg : Bool) : DR2
  | .bl a, .bl b, h, Q => Q (.bl (xor neg (decide (a = b)))) h
  | d, .non, h, Q => Q (.bl (xor neg (isNon d))) h
  | _, _, _, _ => False
theorem rp_non {H : Hp} {d : D} {x : V} (p : Rp X.K H d x) : decide (x = V.non) = (isNon d) := by
  cases d <;> unfold Rp at p <;> first | (subst p; simp [isNon]; done) | (obtain ⟨a, vs, rfl, _⟩ := p; simp [isNon]; done) | (obtain ⟨a, rfl, _⟩ := p; simp [isNon])
theorem d_is : DOp X (compareOp .Is) (rIsD false) := by
  intro pins s σ H x y v u Q I rx ry ⟨d, e, h, Q', hr, p1, p2, q, fin⟩
  have nn : e = .non → Q' (.bl (isNon d)) h → wpAny (model X.prog X.w) X.A (compareOp .Is v u) (EP X pins σ Q) X.xe s := fun ee q0 => by
    rw [ee] at p2
    unfold Rp at p2
    exact op_isN pins s σ H x y v u Q I rx ry ⟨p2, by rw [rp_non p1]; exact fin _ H (.bl _) h Gr.refl hr (by unfold Rp; rfl) q0⟩
  cases e with
  | bl b =>
    cases d with
    | bl a =>
      unfold Rp at p1 p2
      exact op_isBl pins s σ H x y v u Q I rx ry ⟨a, b, p1, p2, fin _ H (.bl (decide (a = b))) h Gr.refl hr (by unfold Rp; rfl) (by simpa [rIsD] using q)⟩
    | _ => exact q.elim
  | non => exact nn rfl (by cases d <;> simpa [rIsD, isNon] using q)
  | _ => cases d <;> exact q.elim
theorem d_isnot : DOp X (compareOp .IsNot) (rIsD true) := by
  intro pins s σ H x y v u Q I rx ry ⟨d, e, h, Q', hr, p1, p2, q, fin⟩
  have nn : e = .non → Q' (.bl (!(isNon d))) h → wpAny (model X.prog X.w) X.A (compareOp .IsNot v u) (EP X pins σ Q) X.xe s := fun ee q0 => by
    rw [ee] at p2
    unfold Rp at p2
    exact op_notN pins s σ H x y v u Q I rx ry ⟨p2, by rw [rp_non p1]; exact fin _ H (.bl _) h Gr.refl hr (by unfold Rp; rfl) q0⟩
  cases e with
  | bl b =>
    cases d with
    | bl a =>
      unfold Rp at p1 p2
      exact op_notBl pins s σ H x y v u Q I rx ry ⟨a, b, p1, p2, fin _ H (.bl (!decide (a = b))) h Gr.refl hr (by unfold Rp; rfl) (by simpa [rIsD] using q)⟩
    | _ => exact q.elim
  | non => exact nn rfl (by cases d <;> simpa [rIsD, isNon] using q)
  | _ => cases d <;> exact q.elim
end
end DL
set_option Elab.async false
set_option linter.all false
set_option maxRecDepth 100000
set_option maxHeartbeats 4000000
namespace DL
open PySem PySem.Spec PyProof.Rows L2
/-! ### items and slices -/
def optAt {α : Type} : Option α → (α → Prop) → Prop
  | some d, k => k d
  | none, _ => False
theorem optAt_of {α : Type} {o : Option α} {k : α → Prop} (q : optAt o k) : ∃ d, o = some d ∧ k d := by
  cases o with
  | none => exact q.elim
  | some d => exact ⟨d, rfl, q⟩
theorem RpL.at {K : PySem.W.Frag} {H : Hp} {ds : List D} {vs : List V} {i : Int} {d : D} (l : RpL K H ds vs) (e : atI ds i = some d) : ∃ v, atI vs i = some v ∧ Rp K H d v := by
  unfold atI at e ⊢
  rw [l.length]
  cases c : ixN ds.length i with
  | none => rw [c] at e; cases e
  | some j => rw [c] at e; exact l.get e
def rIxD' : DR2
  | .tup ds, i, h, Q => asI i fun i => optAt (atI ds i) fun d => Q d h
  | .frz ds, i, h, Q => asI i fun i => optAt (atI ds i) fun d => Q d h
  | .ref a, i, h, Q => lstAt (h a) fun ds => asI i fun i => optAt (atI ds i) fun d => Q d h
  | .str x, i, h, Q => asI i fun i => x.length ≤ sizeLine ∧ optAt (atI x.cps.toList i) fun c => Q (.str ⟨#[c]⟩) h
  | _, _, _, _ => False
section
variable {X : Cx} {G : Option (Hp × DH)} {a b : Expr} {ta tb : DTE} {pos : Pos}
theorem d_ix : IxR X (lR X.K X.mg rIxD') := by
  intro value slice pins s σ H x y v u Q I rx ry ⟨d, e, h, Q', hr, p1, p2, q, fin⟩ hsub
  refine ix_seq value slice pins s σ H x y v u Q I rx ry ?_ hsub
  cases d with
  | tup ds =>
    unfold Rp at p1
    obtain ⟨p, vs, rfl, s1, l⟩ := p1
    obtain ⟨i, rfl, rfl, q⟩ := asI_of (d := e) q p2
    obtain ⟨z, ez, q⟩ := optAt_of q
    obtain ⟨w, ew, rw'⟩ := l.at ez
    exact .inr (.inl ⟨p, vs, i, w, rfl, rfl, s1, ew, fin w H z h Gr.refl hr rw' q⟩)
  | frz ds =>
    unfold Rp at p1
    obtain ⟨p, vs, rfl, s1, l⟩ := p1
    obtain ⟨i, rfl, rfl, q⟩ := asI_of (d := e) q p2
    obtain ⟨z, ez, q⟩ := optAt_of q
    obtain ⟨w, ew, rw'⟩ := l.at ez
    exact .inl ⟨p, vs, i, w, rfl, rfl, s1.seq, ew, fin w H z h Gr.refl hr rw' q⟩
  | ref p =>
    unfold Rp at p1
    subst p1
    obtain ⟨ds, ed, q⟩ := lstAt_of (o := h p) q
    obtain ⟨vs, f, l⟩ := hr.lst ed
    obtain ⟨i, rfl, rfl, q⟩ := asI_of (d := e) q p2
    obtain ⟨z, ez, q⟩ := optAt_of q
    obtain ⟨w, ew, rw'⟩ := l.at ez
    exact .inl ⟨p, vs, i, w, rfl, rfl, SqL.of f, ew, fin w H z h Gr.refl hr rw' q⟩
  | str z =>
    unfold Rp at p1
    subst p1
    obtain ⟨i, rfl, rfl, hz, q⟩ := asI_of (d := e) q p2
    obtain ⟨c, ez, q⟩ := optAt_of q
    exact .inr (.inr ⟨z, i, c, rfl, rfl, hz, ez, fin _ H (.str ⟨#[c]⟩) h Gr.refl hr (by unfold Rp; rfl) q⟩)
  | _ => exact q.elim
theorem de_ix (ha : DE X G a ta) (hb : DE X G b tb) (hp : PlainIx b := by exact fun _ _ => rfl) : DE X G (.Subscript a b pos) (dBin rIxD' ta tb) :=
  PE.of (pe_ix d_ix ha hb hp) fun σ H Q ⟨env, h, Q', g, er, hr, q, fin⟩ => two_of env h g er hr q fun x y H' d e h' k r1 p1 p2 q1 => ⟨d, e, h', Q', r1, p1, p2, q1, fun v H2 d2 h2 k2 r2 p q2 => fin v H2 d2 h2 (k.trans k2) r2 p q2⟩
/-- an item of a written list -/
def dIxL (t : DTA) (ti : DTE) : DTE := fun env h Q => t env h fun ds h1 => ti env h1 fun i h2 => asI i fun i => optAt (atI ds i) fun d => Q d h2
/-! parts of a slice -/
abbrev DTO := DEnv → DH → (Option Int → DH → Prop) → Prop
def lO (K : PySem.W.Frag) (mg : Str → Option Value) (G : Option (Hp × DH)) (t : DTO) : TO := fun σ H Q => ∃ env h Q', anc K G H h ∧ ER K H env σ ∧ HR K mg H h ∧ t env h Q' ∧ ∀ o H' h', Gr K H h H' h' → HR K mg H' h' → Q' o h' → Q o H'
def DPO (X : Cx) (G : Option (Hp × DH)) (e : Option Expr) (t : DTO) : Prop := PO X e (lO X.K X.mg G t)
theorem PO.of {e : Option Expr} {t t' : TO} (p : PO X e t) (i : ∀ σ H Q, t' σ H Q → t σ H Q) : PO X e t' := ⟨fun pins s σ H Q I q => p.run pins s σ H Q I (i _ _ _ q)⟩
def dNoPart : DTO := fun _ h Q => Q none h
def dPart (t : DTE) : DTO := fun env h Q => t env h fun d h1 => asI d fun i => Q (some i) h1
theorem dpo_none : DPO X G none dNoPart := PO.of po_none fun σ H Q ⟨env, h, Q', g, er, hr, q, fin⟩ => fin none H h Gr.refl hr q
theorem dpo_some (ha : DE X G a ta) : DPO X G (some a) (dPart ta) := PO.of (po_some ha) fun σ H Q ⟨env, h, Q', g, er, hr, q, fin⟩ => ⟨env, h, _, g, er, hr, q, fun v H1 d h1 k r p q1 => by
  obtain ⟨i, rfl, rfl, q2⟩ := asI_of q1 p
  exact ⟨i, rfl, fin (some i) H1 h1 k r q2⟩⟩
def cutD (xs : List D) (lo hi : Option Int) : List D := (xs.drop (HT.sIx xs.length 0 lo)).take (HT.sIx xs.length xs.length hi - HT.sIx xs.length 0 lo)
theorem RpL.cut {K : PySem.W.Frag} {H : Hp} {ds : List D} {vs : List V} (l : RpL K H ds vs) (lo hi : Option Int) : RpL K H (cutD ds lo hi) (cutV vs lo hi) := by
  unfold cutD cutV
  rw [l.length]
  exact (l.drop _).take _
def rSlD : D → Option Int → Option Int → DH → DK → Prop
  | .tup ds, lo, hi, h, Q => Q (.tup (cutD ds lo hi)) h
  | .str x, lo, hi, h, Q => x.length ≤ sizeLine ∧ Q (.str (cutS x lo hi)) h
  | .frz ds, lo, hi, h, Q => Q (.frz (cutD ds lo hi)) h
  | .scr ds, lo, hi, h, Q => Q (.frz (cutD ds lo hi)) h
  | .ref a, lo, hi, h, Q => lstAt (h a) fun ds => Q (.frz (cutD ds lo hi)) h
  | _, _, _, _, _ => False
def lSl (K : PySem.W.Frag) (mg : Str → Option Value) (r : D → Option Int → Option Int → DH → DK → Prop) : V → Option Int → Option Int → Hp → VK → Prop := fun x lo hi H Q => ∃ d h Q', HR K mg H h ∧ Rp K H d x ∧ r d lo hi h Q' ∧ ∀ v H' d' h', Gr K H h H' h' → HR K mg H' h' → Rp K H' d' v → Q' d' h' → Q v H'
theorem cut_whole {ds : List D} {lo hi : Option Int} (e : HT.sIx ds.length 0 lo = 0 ∧ HT.sIx ds.length ds.length hi = ds.length) : cutD ds lo hi = ds := by
  unfold cutD
  rw [e.1, e.2, List.drop_zero, Nat.sub_zero, List.take_length]
theorem d_sl : SlR X (lSl X.K X.mg rSlD) := by
  intro pins s σ H x v vl vu lo hi sl Q I rx hs pl pu ⟨d, h, Q', hr, p1, q, fin⟩
  cases d with
  | tup ds =>
    unfold Rp at p1
    obtain ⟨p, vs, rfl, s1, l⟩ := p1
    refine sl_tupA pins s σ H _ v vl vu lo hi sl Q I rx hs pl pu ⟨p, vs, rfl, s1, fun e => ?_, fun _ p2 n => ?_⟩
    · rw [l.length] at e
      exact fin _ H (.tup ds) h Gr.refl hr (by unfold Rp; exact ⟨p, vs, rfl, s1, l⟩) (by have z : Q' (.tup (cutD ds lo hi)) h := q; rw [cut_whole e] at z; exact z)
    · exact fin _ _ (.tup (cutD ds lo hi)) h (Gr.under n) (hr.under n) (by unfold Rp; exact ⟨p2, _, rfl, SqT.of upd_same, RpL.monoT (TK.new n) _ _ (l.cut lo hi)⟩) q
  | str z =>
    unfold Rp at p1
    exact sl_str pins s σ H _ v vl vu lo hi sl Q I rx hs pl pu ⟨z, p1, q.1, fin _ H (.str (cutS z lo hi)) h Gr.refl hr (by unfold Rp; rfl) q.2⟩
  | frz ds =>
    unfold Rp at p1
    obtain ⟨p, vs, rfl, s1, l⟩ := p1
    obtain ⟨T, id, t1, t2, z⟩ := sl_list pins s σ H _ v vl vu lo hi sl (slQ X.prog X.w Q) I rx hs pl pu ⟨p, vs, rfl, s1.seq, fun p2 n hp ok => by
      obtain ⟨H2, f, k2, r2, p2⟩ := laidV hr n (l.cut lo hi) ok
      exact ⟨H2, f, fin _ H2 _ h k2 r2 p2 q⟩⟩
    exact ⟨T, id, t1, t2, thn z fun _ _ z => EP.seal z⟩
  | scr ds =>
    unfold Rp at p1
    obtain ⟨p, vs, rfl, s1, l⟩ := p1
    obtain ⟨T, id, t1, t2, z⟩ := sl_list pins s σ H _ v vl vu lo hi sl (slQ X.prog X.w Q) I rx hs pl pu ⟨p, vs, rfl, s1.seq, fun p2 n hp ok => by
      obtain ⟨H2, f, k2, r2, p2⟩ := laidV hr n (l.cut lo hi) ok
      exact ⟨H2, f, fin _ H2 _ h k2 r2 p2 q⟩⟩
    exact ⟨T, id, t1, t2, thn z fun _ _ z => EP.seal z⟩
  | ref p =>
    unfold Rp at p1
    subst p1
    obtain ⟨ds, ed, q⟩ := lstAt_of (o := h p) q
    obtain ⟨vs, f, l⟩ := hr.lst ed
    obtain ⟨T, id, t1, t2, z⟩ := sl_list pins s σ H _ v vl vu lo hi sl (slQ X.prog X.w Q) I rx hs pl pu ⟨p, vs, rfl, SqL.of f, fun p2 n hp ok => by
      obtain ⟨H2, f, k2, r2, p2⟩ := laidV hr n (l.cut lo hi) ok
      exact ⟨H2, f, fin _ H2 _ h k2 r2 p2 q⟩⟩
    exact ⟨T, id, t1, t2, thn z fun _ _ z => EP.seal z⟩
  | _ => exact q.elim
def dSl (t : DTE) (tl th : DTO) : DTE := fun env h Q => t env h fun d h1 => tl env h1 fun lo h2 => th env h2 fun hi h3 => rSlD d lo hi h3 Q
theorem de_slice {lo hi : Option Expr} {tl th : DTO} {p2 : Pos} (ha : DE X G a ta) (hl : DPO X G lo tl) (hh : DPO X G hi th) : DE X G (.Subscript a (.Slice lo hi none p2) pos) (dSl ta tl th) :=
  PE.of (pe_slice d_sl ha hl hh) fun σ H Q ⟨env, h, Q', g, er, hr, q, fin⟩ => ⟨env, h, _, g, er, hr, q, fun x H1 d h1 k1 r1 p1 q1 => ⟨env, h1, _, g.on k1, er.mono k1, r1, q1, fun lo H2 h2 k2 r2 q2 => ⟨env, h2, _, g.on (k1.trans k2), er.mono (k1.trans k2), r2, q2, fun hi H3 h3 k3 r3 q3 =>
    ⟨d, h3, Q', r3, Rp.mono (k2.trans k3) _ _ p1, q3, fun v H4 d4 h4 k4 r4 p4 q4 => fin v H4 d4 h4 (k1.trans (k2.trans (k3.trans k4))) r4 p4 q4⟩⟩⟩⟩
end
/-! ### calls of built-ins -/
abbrev DRC := List D → DH → DK → Prop
def lC (K : PySem.W.Frag) (mg : Str → Option Value) (r : DRC) : List V → Hp → VK → Prop := fun vs H Q => ∃ ds h Q', HR K mg H h ∧ RpL K H ds vs ∧ r ds h Q' ∧ ∀ v H' d h', Gr K H h H' h' → HR K mg H' h' → Rp K H' d v → Q' d h' → Q v H'
abbrev DCallR (X : Cx) (f : Value) (r : DRC) : Prop := CallR X f (lC X.K X.mg r)
def dCB (r : DRC) (t : DTA) : DTE := fun env h Q => t env h fun ds h1 => r ds h1 Q
section
variable {X : Cx} {G : Option (Hp × DH)} {x : Str} {p pos : Pos} {e : Expr} {es : List Expr} {t : DTA} {idB T : String} {r : DRC}
theorem de_callB (hc : DCallR X (.builtin idB) r) (hg : Gl X x) (hm : X.mg x = none) (hv : bootBuiltins x = some (.builtin idB)) (ha : DA X G (e :: es) t) (hn : x ≠ "__name__" := by decide) (hdb : (x == ("__debug__" : Str)) = false := by decide)
    (he : starEach (e :: es) X.env = (false, eval e X.env) :: starEach es X.env := by rfl) (hpl : (backTo pos (starEach es X.env)).any (·.1) = false := by rfl) : DE X G (.Call (.Name x p) (e :: es) [] pos) (dCB r t) :=
  PE.of (pe_callB hc hg hm hv ha hn hdb he hpl) fun σ H Q ⟨env, h, Q', g, er, hr, q, fin⟩ => ⟨env, h, _, g, er, hr, q, fun vs H1 ds h1 k1 r1 p1 q1 => ⟨ds, h1, Q', r1, p1, q1, fun v H2 d h2 k2 r2 p2 q2 => fin v H2 d h2 (k1.trans k2) r2 p2 q2⟩⟩
theorem de_callTy (hc : DCallR X (.type T) r) (hg : Gl X x) (hm : X.mg x = none) (hv : bootBuiltins x = some (.type T)) (ha : DA X G (e :: es) t) (hn : x ≠ "__name__" := by decide) (hdb : (x == ("__debug__" : Str)) = false := by decide)
    (he : starEach (e :: es) X.env = (false, eval e X.env) :: starEach es X.env := by rfl) (hpl : (backTo pos (starEach es X.env)).any (·.1) = false := by rfl) : DE X G (.Call (.Name x p) (e :: es) [] pos) (dCB r t) :=
  PE.of (pe_callTy hc hg hm hv ha hn hdb he hpl) fun σ H Q ⟨env, h, Q', g, er, hr, q, fin⟩ => ⟨env, h, _, g, er, hr, q, fun vs H1 ds h1 k1 r1 p1 q1 => ⟨ds, h1, Q', r1, p1, q1, fun v H2 d h2 k2 r2 p2 q2 => fin v H2 d h2 (k1.trans k2) r2 p2 q2⟩⟩
/-- the things of a list or tuple -/
def asSq : D → DH → (List D → Prop) → Prop
  | .tup ds, _, k => k ds
  | .frz ds, _, k => k ds
  | .ref a, h, k => lstAt (h a) k
  | _, _, _ => False
theorem asSq_of {H : Hp} {h : DH} {d : D} {v : V} {k : List D → Prop} (q : asSq d h k) (p : Rp X.K H d v) (hr : HR X.K X.mg H h) : ∃ a ds vs, v = .ref a ∧ (SqL X.K H a vs ∨ SqT X.K H a vs) ∧ RpL X.K H ds vs ∧ k ds := by
  cases d with
  | tup ds => unfold Rp at p; obtain ⟨a, vs, rfl, s, l⟩ := p; exact ⟨a, ds, vs, rfl, .inr s, l, q⟩
  | frz ds => unfold Rp at p; obtain ⟨a, vs, rfl, s, l⟩ := p; exact ⟨a, ds, vs, rfl, .inl s.seq, l, q⟩
  | ref a =>
    unfold Rp at p
    obtain ⟨ds, e, q⟩ := lstAt_of (o := h a) q
    obtain ⟨vs, f, l⟩ := hr.lst e
    exact ⟨a, ds, vs, p, .inl (SqL.of f), l, q⟩
  | _ => exact q.elim
def oneD : List D → (D → Prop) → Prop
  | [d], k => k d
  | _, _ => False
def twoD : List D → (D → D → Prop) → Prop
  | [d, e], k => k d e
  | _, _ => False
theorem oneD_of {H : Hp} {ds : List D} {vs : List V} {k : D → Prop} (q : oneD ds k) (l : RpL X.K H ds vs) : ∃ d v, ds = [d] ∧ vs = [v] ∧ Rp X.K H d v ∧ k d := by
  match ds with
  | [d] =>
    obtain ⟨v, rfl, p⟩ := l.one
    exact ⟨d, v, rfl, rfl, p, q⟩
  | [] => exact q.elim
  | _ :: _ :: _ => exact q.elim
theorem twoD_of {H : Hp} {ds : List D} {vs : List V} {k : D → D → Prop} (q : twoD ds k) (l : RpL X.K H ds vs) : ∃ d e v w, ds = [d, e] ∧ vs = [v, w] ∧ Rp X.K H d v ∧ Rp X.K H e w ∧ k d e := by
  match ds with
  | [d, e] =>
    obtain ⟨v, w, rfl, p1, p2⟩ := l.two
    exact ⟨d, e, v, w, rfl, rfl, p1, p2, q⟩
  | [] => exact q.elim
  | [_] => exact q.elim
  | _ :: _ :: _ :: _ => exact q.elim
def lenOf : D → DH → DK → Prop
  | .str x, h, Q => x.length ≤ sizeLine ∧ Q (.int x.length) h
  | d, h, Q => asSq d h fun ds => Q (.int ds.length) h
def rLenD : DRC := fun ds h Q => oneD ds fun d => lenOf d h Q
theorem d_len : DCallR X (.builtin "len") rLenD := by
  intro pins s σ H vs us Q I rv ⟨ds, h, Q', hr, l, q, fin⟩
  · obtain ⟨d, v, rfl, rfl, p, q⟩ := oneD_of q l
    have sq : asSq d h (fun ds => Q' (.int ds.length) h) → wpAny (model X.prog X.w) X.A (PySem.call (.builtin "len") us) (EP X pins σ Q) X.xe s := fun q => by
      obtain ⟨a, es, ws, rfl, sq, l2, q2⟩ := asSq_of q p hr
      exact call_len_seq pins s σ H _ us Q I rv ⟨a, ws, rfl, sq, by rw [l2.length]; exact fin _ H (.int es.length) h Gr.refl hr (by unfold Rp; rfl) q2⟩
    cases d with
    | str z =>
      unfold Rp at p
      subst p
      exact call_len_str pins s σ H _ us Q I rv ⟨z, rfl, q.1, fin _ H (.int z.length) h Gr.refl hr (by unfold Rp; rfl) q.2⟩
    | _ => exact sq q
def rTupleD : DRC := fun ds h Q => oneD ds fun d => asSq d h fun ds => Q (.tup ds) h
theorem d_tuple : DCallR X (.type "tuple") rTupleD := by
  intro pins s σ H vs us Q I rv ⟨ds, h, Q', hr, l, q, fin⟩
  · obtain ⟨d, v, rfl, rfl, p, q⟩ := oneD_of q l
    obtain ⟨a, es, ws, rfl, sq, l2, q2⟩ := asSq_of (show asSq d h (fun ds => Q' (.tup ds) h) from q) p hr
    refine call_tuple_of pins s σ H _ us Q I rv ⟨a, ws, rfl, ?_⟩
    rcases sq with sq | sq
    · exact .inl ⟨sq, fun p n => fin _ _ (.tup es) h (Gr.under n) (hr.under n) (by unfold Rp; exact ⟨p, ws, rfl, SqT.of upd_same, RpL.monoT (TK.new n) _ _ l2⟩) q2⟩
    · exact .inr ⟨sq, fin _ H (.tup es) h Gr.refl hr (by unfold Rp; exact ⟨a, ws, rfl, sq, l2⟩) q2⟩
/-! list(x): a new list -/
def dListOf (t : DTE) : DTA := fun env h Q => t env h fun d h1 => asSq d h1 fun ds => Q ds h1
theorem dl_list {a : Expr} {ta : DTE} (hg : Gl X "list") (hm : X.mg "list" = none) (ha : DE X G a ta) (he : starEach [a] X.env = (false, eval a X.env) :: starEach [] X.env := by rfl) (hpl : (backTo pos (starEach [] X.env)).any (·.1) = false := by rfl) : DLs X G (.Call (.Name "list" p) [a] [] pos) (dListOf ta) :=
  PE.of (pe_callTy call_list_of hg hm (by decide +kernel) (pa_cons ha pa_nil he) (by decide) (by decide) he hpl) fun σ H Q ⟨env, h, Q', g, er, hr, q, fin⟩ => ⟨env, h, _, g, er, hr, q, fun v H1 d h1 k1 r1 p1 q1 => by
    obtain ⟨a, es, ws, rfl, sq, l2, q2⟩ := asSq_of q1 p1 r1
    exact ⟨a, ws, rfl, sq, fun p n => fin p _ es ws h1 (k1.trans (Gr.under n)) (r1.under n) upd_same (RpL.monoT (TK.new n) _ _ l2) (r1.free n) (fun u e z => by rw [(k1.fr p u e z).1] at n; cases n) q2⟩⟩
/-! built-ins over a list's things -/
def dLq (r : DRC) (t : DTA) : DTE := fun env h Q => t env h fun ds h1 => r ds h1 Q
/-- f(e), e a list: by its things -/
theorem dq_call {a : Expr} {ta : DTA} {rv : List V → Hp → VK → Prop} {f : Value} (pe : PE X (.Call (.Name x p) [a] [] pos) (tCB rv (tCons (lQ X.K X.mg G ta) tNil)))
    (c : ∀ l H h ds vs Q Q', HR X.K X.mg H h → SqL X.K H l vs → RpL X.K H ds vs → r ds h Q' → (∀ v H' d h', Gr X.K H h H' h' → HR X.K X.mg H' h' → Rp X.K H' d v → Q' d h' → Q v H') → rv [.ref l] H Q) : DE X G (.Call (.Name x p) [a] [] pos) (dLq r ta) :=
  PE.of pe fun σ H Q ⟨env, h, Q', g, er, hr, q, fin⟩ => ⟨env, h, _, g, er, hr, q, fun l H1 ds vs h1 k1 r1 e1 l1 q1 => c l H1 h1 ds vs Q Q' r1 e1 l1 q1 fun v H' d h' k2 r2 p2 q2 => fin v H' d h' (k1.trans k2) r2 p2 q2⟩
def rAllD : DRC := fun ds h Q => ∃ bs : List Bool, ds = bs.map .bl ∧ Q (.bl (bs.all id)) h
def rAnyD : DRC := fun ds h Q => ∃ bs : List Bool, ds = bs.map .bl ∧ Q (.bl (bs.any id)) h
def rSumD : DRC := fun ds h Q => ∃ ns : List Int, ds = ns.map .int ∧ Q (.int ns.sum) h
def rTupD : DRC := fun ds h Q => Q (.tup ds) h
def rLenL : DRC := fun ds h Q => Q (.int ds.length) h
variable {a : Expr} {ta : DTA}
theorem dq_all (hc : X.calm = true) (hg : Gl X "all") (hm : X.mg "all" = none) (ha : DQ X G a ta) (he : starEach [a] X.env = (false, eval a X.env) :: starEach [] X.env := by rfl) (hpl : (backTo pos (starEach [] X.env)).any (·.1) = false := by rfl) : DE X G (.Call (.Name "all" p) [a] [] pos) (dLq rAllD ta) :=
  dq_call (f := .builtin "all") (pe_callB (cr_all hc) hg hm (by decide +kernel) (pa_cons ha pa_nil he) (by decide) (by decide) he hpl) fun l H h ds vs Q Q' hr e l1 ⟨bs, eb, q⟩ fin => by
    subst eb
    exact ⟨l, bs, rfl, by rw [← l1.bls]; exact e, fin _ H (.bl (bs.all id)) h Gr.refl hr (by unfold Rp; rfl) q⟩
theorem dq_any (hc : X.calm = true) (hg : Gl X "any") (hm : X.mg "any" = none) (ha : DQ X G a ta) (he : starEach [a] X.env = (false, eval a X.env) :: starEach [] X.env := by rfl) (hpl : (backTo pos (starEach [] X.env)).any (·.1) = false := by rfl) : DE X G (.Call (.Name "any" p) [a] [] pos) (dLq rAnyD ta) :=
  dq_call (f := .builtin "any") (pe_callB (cr_any hc) hg hm (by decide +kernel) (pa_cons ha pa_nil he) (by decide) (by decide) he hpl) fun l H h ds vs Q Q' hr e l1 ⟨bs, eb, q⟩ fin => by
    subst eb
    exact ⟨l, bs, rfl, by rw [← l1.bls]; exact e, fin _ H (.bl (bs.any id)) h Gr.refl hr (by unfold Rp; rfl) q⟩
theorem dq_sum (hc : X.calm = true) (hg : Gl X "sum") (hm : X.mg "sum" = none) (ha : DQ X G a ta) (he : starEach [a] X.env = (false, eval a X.env) :: starEach [] X.env := by rfl) (hpl : (backTo pos (starEach [] X.env)).any (·.1) = false := by rfl) : DE X G (.Call (.Name "sum" p) [a] [] pos) (dLq rSumD ta) :=
  dq_call (f := .builtin "sum") (pe_callB (cr_sum hc) hg hm (by decide +kernel) (pa_cons ha pa_nil he) (by decide) (by decide) he hpl) fun l H h ds vs Q Q' hr e l1 ⟨bs, eb, q⟩ fin => by
    subst eb
    exact ⟨l, bs, rfl, by rw [← l1.ints]; exact e, fin _ H (.int bs.sum) h Gr.refl hr (by unfold Rp; rfl) q⟩
theorem dq_tuple (hg : Gl X "tuple") (hm : X.mg "tuple" = none) (ha : DQ X G a ta) (he : starEach [a] X.env = (false, eval a X.env) :: starEach [] X.env := by rfl) (hpl : (backTo pos (starEach [] X.env)).any (·.1) = false := by rfl) : DE X G (.Call (.Name "tuple" p) [a] [] pos) (dLq rTupD ta) :=
  dq_call (f := .type "tuple") (pe_callTy call_tuple_of hg hm (by decide +kernel) (pa_cons ha pa_nil he) (by decide) (by decide) he hpl) fun l H h ds vs Q Q' hr e l1 q fin =>
    ⟨l, vs, rfl, .inl ⟨e, fun p n => fin _ _ (.tup ds) h (Gr.under n) (hr.under n) (by unfold Rp; exact ⟨p, vs, rfl, SqT.of upd_same, RpL.monoT (TK.new n) _ _ l1⟩) q⟩⟩
theorem dq_len (hg : Gl X "len") (hm : X.mg "len" = none) (ha : DQ X G a ta) (he : starEach [a] X.env = (false, eval a X.env) :: starEach [] X.env := by rfl) (hpl : (backTo pos (starEach [] X.env)).any (·.1) = false := by rfl) : DE X G (.Call (.Name "len" p) [a] [] pos) (dLq rLenL ta) :=
  dq_call (f := .builtin "len") (pe_callB call_len_seq hg hm PySem.boot_len (pa_cons ha pa_nil he) (by decide) (by decide) he hpl) fun l H h ds vs Q Q' hr e l1 q fin =>
    ⟨l, vs, rfl, .inl e, by rw [l1.length]; exact fin _ H (.int ds.length) h Gr.refl hr (by unfold Rp; rfl) q⟩
/-- [a, b, ..][i] -/
theorem dl_ix {b : Expr} {tb : DTE} (ha : DLs X G a ta) (hb : DE X G b tb) (hp : PlainIx b := by exact fun _ _ => rfl) : DE X G (.Subscript a b pos) (dIxL ta tb) :=
  PE.of (pe_ix ix_list ha hb hp) fun σ H Q ⟨env, h, Q', g, er, hr, q, fin⟩ => ⟨env, h, _, g, er, hr, q, fun l H1 ds vs h1 k1 r1 e1 l1 n1 _ q1 => ⟨env, h1, _, g.on k1, er.mono k1, r1, q1, fun y H2 d h2 k2 r2 p2 q2 => by
    obtain ⟨i, rfl, rfl, q3⟩ := asI_of q2 p2
    obtain ⟨z, ez, q4⟩ := optAt_of q3
    obtain ⟨w, ew, rw'⟩ := (RpL.mono k2 _ _ l1).at ez
    exact ⟨l, vs, i, w, rfl, rfl, SqL.of (k2.fr l _ e1 n1).1, ew, fin w H2 z h2 (k1.trans k2) r2 rw' q4⟩⟩⟩
/-! list + list -/
theorem cat_fin {H1 H2 : Hp} {h1 h2 : DH} {Q : VK} {Q' : List D → DH → Prop} {l m : Addr} {xs ys : List D} {vs us : List V} (hk : Gr X.K H1 h1 H2 h2) (r2 : HR X.K X.mg H2 h2) (e1 : Rd H2 l (.lst vs)) (e2 : Rd H2 m (.lst us)) (l1 : RpL X.K H2 xs vs) (l2 : RpL X.K H2 ys us)
    (q : xs.length + ys.length ≤ sizeLine ∧ Q' (xs ++ ys) h2) (fin : ∀ p H' ds vs h', Gr X.K H1 h1 H' h' → HR X.K X.mg H' h' → H' p = some (.lst vs) → RpL X.K H' ds vs → h' p = none → (∀ u, H1 p = some u → h1 p = none → False) → Q' ds h' → Q (.ref p) H') : rCatR (.ref l) (.ref m) H2 Q :=
  ⟨l, m, vs, us, rfl, rfl, e1, e2, by rw [l1.length, l2.length]; exact q.1, fun p n => fin p _ (xs ++ ys) (vs ++ us) h2 (hk.trans (Gr.under n)) (r2.under n) upd_same (RpL.monoT (TK.new n) _ _ (l1.append l2)) (r2.free n) (fun u e z => by rw [(hk.fr p u e z).1] at n; cases n) q.2⟩
theorem dl_cat {a b : Expr} {ta tb : DTA} (ha : DLs X G a ta) (hb : DLs X G b tb) : DLs X G (.BinOp a .Add b pos) (dCat ta tb) :=
  PE.of (pe_op op_catR ha hb) fun σ H Q ⟨env, h, Q', g, er, hr, q, fin⟩ => ⟨env, h, _, g, er, hr, q, fun l H1 ds vs h1 k1 r1 e1 l1 n1 _ q1 => ⟨env, h1, _, g.on k1, er.mono k1, r1, q1, fun m H2 es us h2 k2 r2 e2 l2 _ _ q2 =>
    cat_fin (k1.trans k2) r2 (.inl (k2.fr l _ e1 n1).1) (.inl e2) (RpL.mono k2 _ _ l1) l2 q2 fin⟩⟩
def dCatE (ta : DTE) (tb : DTA) : DTA := fun env h Q => ta env h fun d h1 => tb env h1 fun ys h2 => asLl d h2 fun xs => xs.length + ys.length ≤ sizeLine ∧ Q (xs ++ ys) h2
theorem dl_catE {a b : Expr} {ta : DTE} {tb : DTA} (ha : DE X G a ta) (hb : DLs X G b tb) : DLs X G (.BinOp a .Add b pos) (dCatE ta tb) :=
  PE.of (pe_op op_catR ha hb) fun σ H Q ⟨env, h, Q', g, er, hr, q, fin⟩ => ⟨env, h, _, g, er, hr, q, fun v H1 d h1 k1 r1 p1 q1 => ⟨env, h1, _, g.on k1, er.mono k1, r1, q1, fun m H2 es us h2 k2 r2 e2 l2 _ _ q2 => by
    obtain ⟨l, xs, vs, rfl, f2, l1, q3⟩ := asLl_of q2 (Rp.mono k2 _ _ p1) r2
    exact cat_fin (k1.trans k2) r2 f2 (.inl e2) l1 l2 q3 fin⟩⟩
def dCatN (ta : DTA) (tb : DTE) : DTA := fun env h Q => ta env h fun xs h1 => tb env h1 fun e h2 => asLl e h2 fun ys => xs.length + ys.length ≤ sizeLine ∧ Q (xs ++ ys) h2
theorem dl_catN {a b : Expr} {ta : DTA} {tb : DTE} (ha : DLs X G a ta) (hb : DE X G b tb) : DLs X G (.BinOp a .Add b pos) (dCatN ta tb) :=
  PE.of (pe_op op_catR ha hb) fun σ H Q ⟨env, h, Q', g, er, hr, q, fin⟩ => ⟨env, h, _, g, er, hr, q, fun l H1 ds vs h1 k1 r1 e1 l1 n1 _ q1 => ⟨env, h1, _, g.on k1, er.mono k1, r1, q1, fun v H2 d h2 k2 r2 p2 q2 => by
    obtain ⟨m, ys, us, rfl, f2, l2, q3⟩ := asLl_of q2 p2 r2
    exact cat_fin (k1.trans k2) r2 (.inl (k2.fr l _ e1 n1).1) f2 (RpL.mono k2 _ _ l1) l2 q3 fin⟩⟩
end
/-! ### isinstance(x, T), T a built-in type -/
def tyName : D → DH → (String → Prop) → Prop
  | .non, _, k => k "NoneType"
  | .bl _, _, k => k "bool"
  | .int _, _, k => k "int"
  | .str _, _, k => k "str"
  | .tup _, _, k => k "tuple"
  | .frz _, _, k => k "list"
  | .ref a, h, k => lstAt (h a) fun _ => k "list"
  | .scr _, _, k => k "list"
  | .exc _ _, _, _ => False
def isTy : String → String → Bool
  | "bool", "int" => true
  | s, t => s == t
def dIsi (T : String) (t : DTE) : DTE := fun env h Q => t env h fun d h1 => tyName d h1 fun n => Q (.bl (isTy n T)) h1
section
variable {X : Cx} {G : Option (Hp × DH)} {a : Expr} {ta : DTE} {p p2 pos : Pos}
theorem ty_of {H : Hp} {h : DH} {d : D} {v : V} {k : String → Prop} (q : tyName d h k) (pr : Rp X.K H d v) (hr : HR X.K X.mg H h) : ∃ n, TyX X.K H v (.type n) ∧ (n = "NoneType" ∨ n = "bool" ∨ n = "int" ∨ n = "str" ∨ n = "tuple" ∨ n = "list") ∧ k n := by
  cases d with
  | non => unfold Rp at pr; subst pr; exact ⟨_, .base .non, by simp, q⟩
  | bl b => unfold Rp at pr; subst pr; exact ⟨_, .base (.bl b), by simp, q⟩
  | int b => unfold Rp at pr; subst pr; exact ⟨_, .base (.int b), by simp, q⟩
  | str b => unfold Rp at pr; subst pr; exact ⟨_, .base (.str b), by simp, q⟩
  | tup ds =>
    unfold Rp at pr
    obtain ⟨a, vs, rfl, s, l⟩ := pr
    refine ⟨"tuple", ?_, by simp, q⟩
    rcases s with (s | ⟨o, s⟩) | ⟨o, its, n, e1, e2, _⟩
    · exact .base (.tup s)
    · exact .fTuple s
    · exact .kTuple e1 e2
  | frz ds =>
    unfold Rp at pr
    obtain ⟨a, vs, rfl, s, l⟩ := pr
    refine ⟨"list", ?_, by simp, q⟩
    obtain ⟨o, s⟩ := s
    exact .base (.frz s)
  | scr ds =>
    unfold Rp at pr
    obtain ⟨a, vs, rfl, s, l⟩ := pr
    refine ⟨"list", ?_, by simp, q⟩
    rcases s with ⟨o, s⟩ | ⟨o, its, n, e1, e2, _⟩
    · exact .base (.frz s)
    · exact .kList e1 e2
  | ref a =>
    unfold Rp at pr
    subst pr
    obtain ⟨ds, e, q⟩ := lstAt_of (o := h a) q
    obtain ⟨vs, f, l⟩ := hr.lst e
    exact ⟨"list", .base (.lst f), by simp, q⟩
  | exc nm fs => exact q.elim
theorem de_isi {T : String} (hT : T = "bool" ∨ T = "int" ∨ T = "str" ∨ T = "tuple" ∨ T = "list") (hg : Gl X "isinstance") (hm : X.mg "isinstance" = none) {y : Str} (hgT : Gl X y) (hmT : X.mg y = none) (hvT : bootBuiltins y = some (.type T)) (ha : DE X G a ta)
    (hn : y ≠ "__name__" := by decide) (hdb : (y == ("__debug__" : Str)) = false := by decide)
    (he : starEach [a, .Name y p2] X.env = (false, eval a X.env) :: starEach [.Name y p2] X.env := by rfl) (he2 : starEach [.Name y p2] X.env = (false, eval (.Name y p2) X.env) :: starEach [] X.env := by rfl) (hpl : (backTo pos (starEach [.Name y p2] X.env)).any (·.1) = false := by rfl) :
    DE X G (.Call (.Name "isinstance" p) [a, .Name y p2] [] pos) (dIsi T ta) :=
  PE.of (pe_callB call_isi hg hm (by decide +kernel) (pa_cons ha (pa_cons (pe_bltn (v := .ty T) hgT hmT hvT rfl hn hdb) pa_nil he2) he) (by decide) (by decide) he hpl) fun σ H Q ⟨env, h, Q', g, er, hr, q, fin⟩ => ⟨env, h, _, g, er, hr, q, fun v H1 d h1 k1 r1 p1 q1 => by
    obtain ⟨n, ty, hn, q2⟩ := ty_of q1 p1 r1
    refine ⟨v, .ty T, .type n, .type T, isTy n T, rfl, .ty T, ty, kit_ty ?_, fin _ H1 (.bl (isTy n T)) h1 k1 r1 (by unfold Rp; rfl) q2⟩
    rcases hT with rfl | rfl | rfl | rfl | rfl <;> rcases hn with rfl | rfl | rfl | rfl | rfl | rfl <;> decide +kernel⟩
end
/-! ### methods of lists -/
abbrev DRM := D → List D → DH → DK → Prop
def dMeth (r : DRM) (to : DTE) (t : DTA) : DTE := fun env h Q => to env h fun o h1 => asLl o h1 fun _ => t env h1 fun ds h2 => r o ds h2 Q
def lM (K : PySem.W.Frag) (mg : Str → Option Value) (r : DRM) : V → List V → Hp → VK → Prop := fun x vs H Q => ∃ o ds h Q', HR K mg H h ∧ Rp K H o x ∧ RpL K H ds vs ∧ r o ds h Q' ∧ ∀ v H' d h', Gr K H h H' h' → HR K mg H' h' → Rp K H' d v → Q' d h' → Q v H'
section
variable {X : Cx} {G : Option (Hp × DH)} {o e : Expr} {es : List Expr} {to : DTE} {t : DTA} {name : Str} {apos cpos : Pos} {idM : String} {r : DRM}
theorem de_lmeth (slot : Slot "list" name idM) (hty : typeOf (.builtin idM) = pure (.type "method_descriptor")) (hm : MtR X idM (lM X.K X.mg r)) (ho : DE X G o to) (ha : DA X G (e :: es) t)
    (hbase : attributeBase o name X.env (eval o X.env) = eval o X.env := by rfl)
    (hfew : ((backTo cpos (starEach (e :: es) X.env)).all (fun x => !x.1) && (backToKw cpos (keywordEach [] X.env)).all (fun x => x.1.isSome)
      && decide ((e :: es).length + ([] : List Keyword).length + (if ([] : List Keyword).isEmpty then 0 else 1) < 30)) = true := by rfl)
    (hline : (apos.endLine == cpos.line) = true := by rfl) (hs : starEach (e :: es) X.env = (false, eval e X.env) :: starEach es X.env := by rfl) (hplain : (backTo cpos (starEach es X.env)).any (·.1) = false := by rfl) :
    DE X G (.Call (.Attribute o name apos) (e :: es) [] cpos) (dMeth r to t) :=
  PE.of (pe_bm PySem.F.plainAttrs_list slot hty hm ho ha hbase hfew hline hs hplain) fun σ H Q ⟨env, h, Q', g, er, hr, q, fin⟩ => ⟨env, h, _, g, er, hr, q, fun x H1 d h1 k1 r1 p1 q1 => by
    obtain ⟨l, ds, vs, rfl, e2, l1, q2⟩ := asLl_of q1 p1 r1
    exact ⟨.inl ⟨rfl, vs, .inl e2⟩, env, h1, _, g.on k1, er.mono k1, r1, q2, fun us H2 es2 h2 k2 r2 p2 q3 => ⟨d, es2, h2, Q', r2, Rp.mono k2 _ _ p1, p2, q3, fun v H3 d3 h3 k3 r3 p3 q4 => fin v H3 d3 h3 (k1.trans (k2.trans k3)) r3 p3 q4⟩⟩⟩
def dMeth0 (r : DRM) (to : DTE) : DTE := fun env h Q => to env h fun o h1 => asL o h1 fun _ => r o [] h1 Q
theorem de_lmeth0 (slot : Slot "list" name idM) (hty : typeOf (.builtin idM) = pure (.type "method_descriptor")) (hm : MtR X idM (lM X.K X.mg r)) (ho : DE X G o to)
    (hbase : attributeBase o name X.env (eval o X.env) = eval o X.env := by rfl) (hline : (apos.endLine == cpos.line) = true := by rfl) : DE X G (.Call (.Attribute o name apos) [] [] cpos) (dMeth0 r to) :=
  PE.of (pe_bm0 PySem.F.plainAttrs_list slot hty hm ho hbase hline) fun σ H Q ⟨env, h, Q', g, er, hr, q, fin⟩ => ⟨env, h, _, g, er, hr, q, fun x H1 d h1 k1 r1 p1 q1 => by
    obtain ⟨l, ds, vs, rfl, rfl, e1, e2, l1, q2⟩ := asL_of q1 p1 r1
    exact ⟨.inl ⟨rfl, vs, SqL.of e2⟩, .ref l, [], h1, Q', r1, by unfold Rp; rfl, RpL.nil, q2, fun v H3 d3 h3 k3 r3 p3 q4 => fin v H3 d3 h3 (k1.trans k3) r3 p3 q4⟩⟩
/-- the list of a receiver -/
def rcvL (o : D) (h : DH) (k : Addr → List D → Prop) : Prop := match o with
  | .ref a => lstAt (h a) fun ds => k a ds
  | _ => False
theorem rcvL_of {H : Hp} {h : DH} {o : D} {x : V} {k : Addr → List D → Prop} (q : rcvL o h k) (p : Rp X.K H o x) (hr : HR X.K X.mg H h) : ∃ a ds vs, x = .ref a ∧ o = .ref a ∧ h a = some (.lst ds) ∧ H a = some (.lst vs) ∧ RpL X.K H ds vs ∧ k a ds := by
  cases o with
  | ref a =>
    unfold Rp at p
    obtain ⟨ds, e, q⟩ := lstAt_of (o := h a) q
    obtain ⟨vs, f, l⟩ := hr.lst e
    exact ⟨a, ds, vs, p, rfl, e, f, l, q⟩
  | _ => exact q.elim
theorem wr {H : Hp} {h : DH} {a : Addr} {ds ds' : List D} {vs vs' : List V} (hr : HR X.K X.mg H h) (e : h a = some (.lst ds)) (f : H a = some (.lst vs)) (l : RpL X.K H ds' vs') : Gr X.K H h (upd H a (.lst vs')) (up h a (.lst ds')) ∧ HR X.K X.mg (upd H a (.lst vs')) (up h a (.lst ds')) := by
  have m : Mut (H a) := by rw [f]; trivial
  exact ⟨Gr.write m e, hr.write (o := .lst ds') m ⟨vs', upd_same, RpL.monoT (TK.mut m) _ _ l⟩⟩
def rAppD : DRM := fun o ds h Q => oneD ds fun d => rcvL o h fun a xs => xs.length < sizeLine ∧ Q .non (up h a (.lst (xs ++ [d])))
theorem d_append : MtR X "list.append" (lM X.K X.mg rAppD) := by
  intro pins s σ H x vs v us Q I rx rs ⟨o, ds, h, Q', hr, po, l, q, fin⟩
  obtain ⟨d, w, rfl, rfl, pw, q⟩ := oneD_of q l
  obtain ⟨a, xs, ws, rfl, rfl, e, f, lx, q⟩ := rcvL_of q po hr
  obtain ⟨k, r⟩ := wr (ds' := xs ++ [d]) (vs' := ws ++ [w]) hr e f (lx.append (RpL.cons pw RpL.nil))
  exact mt_append pins s σ H _ _ v us Q I rx rs ⟨a, ws, w, rfl, rfl, f, by rw [lx.length]; exact q.1, fin _ _ .non _ k r (by unfold Rp; rfl) q.2⟩
def rPopD : DRM := fun o ds h Q => rcvL o h fun a xs => ds = [] ∧ optAt (xs[xs.length - 1]?) fun d => Q d (up h a (.lst xs.dropLast))
theorem RpL.dropLast {K : PySem.W.Frag} {H : Hp} {ds : List D} {vs : List V} (l : RpL K H ds vs) : RpL K H ds.dropLast vs.dropLast := by
  rw [List.dropLast_eq_take, List.dropLast_eq_take, l.length]; exact l.take _
theorem d_pop : MtR X "list.pop" (lM X.K X.mg rPopD) := by
  intro pins s σ H x vs v us Q I rx rs ⟨o, ds, h, Q', hr, po, l, q, fin⟩
  obtain ⟨a, xs, ws, rfl, rfl, e, f, lx, e0, q2⟩ := rcvL_of q po hr
  subst e0
  unfold RpL at l
  subst l
  obtain ⟨d, ed, q3⟩ := optAt_of q2
  obtain ⟨w, ew, pw⟩ := lx.get ed
  obtain ⟨k, r⟩ := wr (ds' := xs.dropLast) (vs' := ws.dropLast) hr e f lx.dropLast
  exact mt_pop pins s σ H _ _ v us Q I rx rs ⟨a, ws, w, rfl, rfl, f, by rw [lx.length]; exact ew, fin _ _ d _ k r (Rp.mono k _ _ pw) q3⟩
def rClearD : DRM := fun o ds h Q => rcvL o h fun a _ => ds = [] ∧ Q .non (up h a (.lst []))
theorem d_clear : MtR X "list.clear" (lM X.K X.mg rClearD) := by
  intro pins s σ H x vs v us Q I rx rs ⟨o, ds, h, Q', hr, po, l, q, fin⟩
  obtain ⟨a, xs, ws, rfl, rfl, e, f, lx, e0, q2⟩ := rcvL_of q po hr
  subst e0
  unfold RpL at l
  subst l
  obtain ⟨k, r⟩ := wr (ds' := []) (vs' := []) hr e f RpL.nil
  exact mt_clear pins s σ H _ _ v us Q I rx rs ⟨a, ws, rfl, rfl, f, fin _ _ .non _ k r (by unfold Rp; rfl) q2⟩
def rRevD : DRM := fun o ds h Q => rcvL o h fun a xs => ds = [] ∧ Q .non (up h a (.lst xs.reverse))
theorem d_reverse : MtR X "list.reverse" (lM X.K X.mg rRevD) := by
  intro pins s σ H x vs v us Q I rx rs ⟨o, ds, h, Q', hr, po, l, q, fin⟩
  obtain ⟨a, xs, ws, rfl, rfl, e, f, lx, e0, q2⟩ := rcvL_of q po hr
  subst e0
  unfold RpL at l
  subst l
  obtain ⟨k, r⟩ := wr (ds' := xs.reverse) (vs' := ws.reverse) hr e f lx.reverse
  exact mt_reverse pins s σ H _ _ v us Q I rx rs ⟨a, ws, rfl, rfl, f, fin _ _ .non _ k r (by unfold Rp; rfl) q2⟩
def rExtD : DRM := fun o ds h Q => oneD ds fun d => rcvL o h fun a xs => asLl d h fun ys => xs.length + ys.length ≤ sizeLine ∧ Q .non (up h a (.lst (xs ++ ys)))
/-- .. whether told or a value -/
def rExtR : V → List V → Hp → VK → Prop := fun x vs H Q => ∃ l b xs zs, x = .ref l ∧ vs = [.ref b] ∧ H l = some (.lst xs) ∧ Rd H b (.lst zs) ∧ xs.length + zs.length ≤ sizeLine ∧ Q .non (upd H l (.lst (xs ++ zs)))
theorem mt_extR : MtR X "list.extend" rExtR := by
  rintro pins s σ H _ _ v us Q I rx rv ⟨l, b, xs, zs, rfl, rfl, hH, q2, hz, q⟩
  cases rx
  obtain ⟨u, rfl, ru⟩ := rv.one
  cases ru
  obtain ⟨_, i1, n1, r1, l1, e1⟩ := Inv.sqf I (.inl hH)
  obtain ⟨_, i2, n2, r2, l2, e2⟩ := Inv.sqf I q2
  have z1 : i1.toArray.size + i2.toArray.size ≤ sizeLine := by rw [List.size_toArray, List.size_toArray, l1, l2]; exact hz
  have z2 : ¬ (!i1.toArray.isEmpty && Builtin.List.listTooLong (i1.toArray.size + i2.toArray.size)) = true := fun z => by
    rw [notLongL z1, Bool.and_false] at z
    cases z
  refine call_meets F.slot_list_extend ⟨_, e1, rfl⟩ F.entry_list_extend (F.args_list_extend_2 _ _) (AutoSeq1.list_extend_list_list_0 l i1.toArray n1 b i2.toArray n2 z2 (by rw [List.size_toArray] at *; omega) (by omega)) ⟨e1, e2, ?_⟩
  exact ⟨.non, _, I.lset (its' := i1 ++ i2) hH e1 (by simp) (r1.append r2) (by rw [List.length_append]; exact hz), rfl, q⟩
theorem d_extend : MtR X "list.extend" (lM X.K X.mg rExtD) := by
  intro pins s σ H x vs v us Q I rx rs ⟨o, ds, h, Q', hr, po, l, q, fin⟩
  obtain ⟨d, w, rfl, rfl, pw, q⟩ := oneD_of q l
  obtain ⟨a, xs, ws, rfl, rfl, e, f, lx, q⟩ := rcvL_of q po hr
  obtain ⟨b, ys, zs, rfl, f2, ly, q⟩ := asLl_of q pw hr
  obtain ⟨k, r⟩ := wr (ds' := xs ++ ys) (vs' := ws ++ zs) hr e f (lx.append ly)
  exact mt_extR pins s σ H _ _ v us Q I rx rs ⟨a, b, ws, zs, rfl, rfl, f, f2, by rw [lx.length, ly.length]; exact q.1, fin _ _ .non _ k r (by unfold Rp; rfl) q.2⟩
end
/-! ### calls of defs -/
def dCall (S : DSp) (n : Nat) (E : DXE) (t : DTA) : DTE := fun env h Q => t env h fun ds h1 => ds.length = n ∧ S ds h1 Q (E env)
section
variable {X : Cx} {G : Option (Hp × DH)} {x : Str} {p pos : Pos} {e : Expr} {es : List Expr} {t : DTA} {S : DSp} {n k : Nat} {f : Addr} {fd : FuncData} {ps : List Str} {E : DXE}
/-- what a callee may let out is taken -/
def PassD (X : Cx) (G : Option (Hp × DH)) (E : DXE) : Prop := ∀ σ, PassesAt (L2.CX X.prog X.w) X σ (WE (lW X.K X.mg G E) σ)
theorem de_call (F : FnOk X.prog X.w X.K X.mg X.base (L2.CX X.prog X.w) k f fd ps (lSp X.K X.mg n S)) (hr : Room k X.A) (hg : Gl X x) (hm : X.mg x = some (.ref f)) (hk : PySem.W.keepIn X.K (.ref f) = true) (hb : Binds X.K fd ps []) (hx : PassD X G E)
    (ha : DA X G (e :: es) t) (hdb : (x == ("__debug__" : Str)) = false := by decide) (he : starEach (e :: es) X.env = (false, eval e X.env) :: starEach es X.env := by rfl) (hpl : (backTo pos (starEach es X.env)).any (·.1) = false := by rfl) :
    DE X G (.Call (.Name x p) (e :: es) [] pos) (dCall S n E t) :=
  PE.of (pe_callS F hr hg hm hk hb hx ha hdb he hpl) fun σ H Q ⟨env, h, Q', g, er, hr, q, fin⟩ => ⟨env, h, _, g, er, hr, q, fun vs H1 ds h1 k1 r1 p1 q1 =>
    ⟨ds, h1, Q', E env, q1.1, p1, r1, q1.2, fun v H2 d h2 k2 r2 p2 q2 => fin v H2 d h2 (k1.trans k2) r2 p2 q2, fun c dx H' ⟨nm, C, fs, h', a1, a2, a3, a4⟩ => ⟨env, (er.mono k1).mono a3, nm, C, fs, h', a1, a2, (g.on k1).on a3, a4⟩⟩⟩
/-- no exception leaves -/
abbrev X0 : DXE := fun _ _ _ _ => False
theorem passX0 : PassD X G X0 := fun _ _ _ _ _ _ _ h => by
  obtain ⟨_, _, _, _, _, _, _, _, _, _, _, _, hE⟩ := h
  obtain ⟨_, _, _, _, _, _, _, _, _, _, _, z⟩ := hE
  exact z.elim
end
end DL
set_option Elab.async false
set_option linter.all false
set_option maxRecDepth 100000
set_option maxHeartbeats 4000000
namespace DL
open PySem PySem.Spec PyProof.Rows L2 HT
/-! ### t[::-1] of a tuple -/
section
variable {prog : Program} {w : World} {A : Around} {E : Value → Shared → Prop} {s : Shared}
theorem sliceApplied_back {sl : Addr} {vs : Value} {n : Nat} {Q : Int × Int × Nat → Shared → Prop} (hs : s.heap.IsSliceOf sl .none .none vs) (ps : IsPart vs (some (-1)))
    (h : Q ((n : Int) - 1, -1, n) s) : wpAny (model prog w) A (Builtin.Slice.sliceApplied (.ref sl) (pure (n : Int))) Q E s := by
  obtain ⟨os, hos, hcs, hds⟩ := id hs
  unfold Builtin.Slice.sliceApplied Builtin.Slice.sliceFields
  refine wpAny_bind (wpAny_bind (wpAny_field hos hds (x := .none) rfl (wpAny_bind (wpAny_field hos hds (x := .none) rfl (wpAny_bind (wpAny_field hos hds (x := vs) rfl (wpAny_pure ?_)))))))
  refine wpAny_bind (slicePart_ ps ?_)
  show wpAny _ _ (if ((-1 : Int) == 0) = true then _ else _) _ _ s
  rw [if_neg (by decide)]
  refine wpAny_bind (slicePart_none (wpAny_bind (slicePart_none (wpAny_bind (wpAny_pure ?_)))))
  show wpAny _ _ (pure ((n : Int) - 1, (-1 : Int), Builtin.Slice.slicePlaces ((n : Int) - 1) (-1) (-1))) _ _ s
  have e : Builtin.Slice.slicePlaces ((n : Int) - 1) (-1) (-1) = n := by
    unfold Builtin.Slice.slicePlaces
    rw [if_neg (by decide), Int.neg_neg, Int.ediv_one]
    split <;> omega
  rw [e]
  exact wpAny_pure h
theorem fm_map {α β : Type} {f : α → Option β} {g : α → β} : ∀ {l : List α}, (∀ m ∈ l, f m = some (g m)) → l.filterMap f = l.map g
  | [], _ => rfl
  | a :: l, h => by rw [List.filterMap_cons, h a (List.mem_cons_self ..), List.map_cons, fm_map fun m hm => h m (List.mem_cons_of_mem _ hm)]
theorem pick_back (xs : Array Value) : ((List.range xs.size).filterMap fun (m : Nat) => xs[(((xs.size : Int) - 1) + (m : Int) * (-1)).toNat]?).toArray = xs.toList.reverse.toArray := by
  congr 1
  apply List.ext_getElem?
  intro i
  have key : ((List.range xs.size).filterMap fun (m : Nat) => xs[(((xs.size : Int) - 1) + (m : Int) * (-1)).toNat]?) = (List.range xs.size).map fun m => xs.getD (xs.size - 1 - m) .none := by
    refine fm_map fun m hm => ?_
    have hm := List.mem_range.mp hm
    have e : (((xs.size : Int) - 1) + (m : Int) * (-1)).toNat = xs.size - 1 - m := by omega
    rw [e, Array.getElem?_eq_getElem (by omega)]
    simp [Array.getD, show xs.size - 1 - m < xs.size by omega]
  rw [key, List.getElem?_map]
  by_cases h : i < xs.size
  · rw [List.getElem?_range h, List.getElem?_reverse (by simpa using h)]
    simp only [Option.map_some, Array.length_toList]
    rw [Array.getElem?_toList, Array.getElem?_eq_getElem (by omega)]
    simp [Array.getD, show xs.size - 1 - i < xs.size by omega]
  · rw [List.getElem?_eq_none (by simpa using h), List.getElem?_eq_none (by simpa using h)]
    rfl
theorem getItem_tuple_back {t sl : Addr} {items : Array Value} {vs : Value} {Q : Value → Shared → Prop} (ht : IsTup s.heap t items) (hs : s.heap.IsSliceOf sl .none .none vs) (ps : IsPart vs (some (-1)))
    (h : Q (.ref s.heap.objs.size) { s with heap := s.heap.push { cls := .type "tuple", data := .seq items.toList.reverse.toArray } })
    (hsz : items.size ≤ sizeLine) : wpAny (model prog w) A (getItem (.ref t) (.ref sl)) Q E s := by
  have htake : sizeOk (.seq items.toList.reverse.toArray) := by
    show items.toList.reverse.toArray.size ≤ sizeLine
    rw [List.size_toArray, List.length_reverse, Array.length_toList]
    exact hsz
  obtain ⟨os, hos, hcs, hds⟩ := id hs
  have hTs : s.TypeIs (.ref sl) "slice" := ⟨os, hos, hcs⟩
  unfold getItem
  try with_reducible refine wpAny_holding ?_
  first | refine wpAny_bind (wpAny_pure ?_) | skip
  refine wpAny_bind (wpAny_sequenceKey ht.typeIs (by decide) ?_)
  refine wpAny_bind (wpAny_callSpecial?_slot (name := Str.ofString "__getitem__") ht.typeIs PyProof.Rows.slot_tuple_getitem
    (wpAny_call_entry PyProof.Rows.slot_tuple_getitem ht.typeIs entry_tuple_getitem ?_ (args_tuple_getitem _ _)))
  show wpAny _ _ (Builtin.Tuple.tupleItemsOf (.ref t) >>= _) _ _ s
  refine wpAny_bind (tupleItemsOf_ ht ?_)
  refine wpAny_bind (wpAny_typeOf hTs ?_)
  rw [if_pos (by decide)]
  refine wpAny_bind (sliceApplied_back hs ps ?_)
  have hno : ¬ ((((items.size : Int) - 1) == 0 && (-1 : Int) == 1 && items.size == items.size) = true) := by
    intro q
    rw [Bool.and_eq_true, Bool.and_eq_true] at q
    exact absurd q.1.2 (by decide)
  show wpAny _ _ (if (((items.size : Int) - 1) == 0 && (-1 : Int) == 1 && items.size == items.size) = true then _ else _) _ _ s
  rw [if_neg hno, pick_back]
  first
    | exact wpAny_bind (m := Builtin.Tuple.tupleExact _) (wpAny_newObj_type (wpAny_pure ⟨_, rfl, wpAny_pure h⟩) htake)
    | exact wpAny_bind (m := Builtin.Tuple.tupleExact _) (wpAny_newObj_type (wpAny_bind (wpAny_pure (wpAny_pure ⟨_, rfl, wpAny_pure h⟩))) htake)
end
section
variable {X : Cx}
def tRevT (K : PySem.W.Frag) (te : TE) : TE := fun σ H Q => te σ H fun x H1 => ∃ a xs, x = .ref a ∧ ((SqL K H1 a xs ∧ ∀ p, H1 p = none → Q (.ref p) (upd H1 p (.lst xs.reverse))) ∨ (SqT K H1 a xs ∧ ∀ p, H1 p = none → Q (.ref p) (upd H1 p (.tup xs.reverse))))
theorem pe_revA {e : Expr} {te : TE} {k : Nat} {p1 p2 p3 pos : Pos} (he : PE X e te) : PE X (.Subscript e (.Slice none none (some (.UnaryOp .USub (.Constant (.int 1) k p1) p2)) p3) pos) (tRevT X.K te) := by
  refine ⟨fun pins s σ H Q I h => ?_⟩
  refine Subscript_ (thn (he.run pins s σ H _ I h) fun v s1 ⟨x, H1, I1, r1, q1⟩ => ?_)
  obtain ⟨a, xs, ex, hx⟩ := q1
  subst ex
  cases r1
  have hst : PO X (some (.UnaryOp .USub (.Constant (.int 1) k p1) p2)) (tPart (tUn (rU fun i => .int (-i)) (tC (.int 1)))) := po_some (pe_un un_neg pe_int)
  refine wpAny_Slice (thn (po_none.run pins s1 σ H1 (fun o H2 => o = none ∧ H2 = H1) I1 ⟨rfl, rfl⟩) fun vl s2 ⟨l, H2, I2, pl, el, e2⟩ => ?_)
  subst el e2
  refine thn (po_none.run pins s2 σ H2 (fun o H3 => o = none ∧ H3 = H2) I2 ⟨rfl, rfl⟩) fun vu s3 ⟨u, H3, I3, pu, eu, e3⟩ => ?_
  subst eu e3
  refine thn (hst.run pins s3 σ H3 (fun o H4 => o = some (-1) ∧ H4 = H3) I3 ⟨1, rfl, -1, rfl, rfl, rfl⟩) fun vs s4 ⟨o, H4, I4, ps, eo, e4⟩ => ?_
  subst eo e4
  have I5 : Inv X pins σ H4 { s4 with heap := s4.heap.push { cls := .type "slice", data := .fields #[vl, vu, vs] } } := I4.kept (t' := s4.toks) fun b ob q => Heap.get?_push_of_some _ q
  rcases hx with ⟨hx, q⟩ | ⟨hx, q⟩
  · obtain ⟨its, r, ht, hz⟩ := I5.list hx
    have hlen := r.length
    show wpAny (model X.prog X.w) X.A (subscriptTail e (.Slice none none (some (.UnaryOp .USub (.Constant (.int 1) k p1) p2)) p3) (.ref a) (.ref s4.heap.objs.size)) (EP X pins σ Q) X.xe { s4 with heap := s4.heap.push { cls := .type "slice", data := .fields #[vl, vu, vs] } }
    refine tail_any (ops := [.ref a, .ref s4.heap.objs.size]) ht.isList.typeIs (PySem.slot_list_getitem.lookup) ?_ (by with_unfolding_all rfl)
    refine wpAny_getItem_list_slice ht.isList (Heap.IsSliceOf.new _ vl vu vs) pl pu ps (by decide) ?_ (by rw [List.size_toArray]; omega)
    rw [PySem.W.krv_pick]
    refine ⟨.ref _, _, I5.laid (t' := s4.toks) (o := .lst xs.reverse) (fun b ob q => Heap.get?_push_of_some _ q) (Nat.le_refl _) ?_, rfl, q _ (I5.hok.fresh (Nat.le_refl _))⟩
    exact ⟨by rw [List.length_reverse]; exact hz, _, 0, r.reverse, Heap.get?_push_size _ rfl⟩
  · obtain ⟨its, r, ht, hz⟩ := I5.tuple hx
    have hlen := r.length
    cases pl
    cases pu
    show wpAny (model X.prog X.w) X.A (subscriptTail e (.Slice none none (some (.UnaryOp .USub (.Constant (.int 1) k p1) p2)) p3) (.ref a) (.ref s4.heap.objs.size)) (EP X pins σ Q) X.xe { s4 with heap := s4.heap.push { cls := .type "slice", data := .fields #[.none, .none, vs] } }
    refine tail_any (ops := [.ref a, .ref s4.heap.objs.size]) ht.typeIs (PyProof.Rows.slot_tuple_getitem.lookup) ?_ (by with_unfolding_all rfl)
    refine getItem_tuple_back ht (Heap.IsSliceOf.new _ .none .none vs) ps ?_ (by rw [List.size_toArray]; omega)
    refine ⟨.ref _, _, I5.laid (t' := s4.toks) (o := .tup xs.reverse) (fun b ob q => Heap.get?_push_of_some _ q) (Nat.le_refl _) ?_, rfl, q _ (I5.hok.fresh (Nat.le_refl _))⟩
    exact ⟨by rw [List.length_reverse]; exact hz, _, r.reverse, IsTup.new _ _⟩
end
/-- xs[::-1] of a list, of a tuple -/
def rRevA : D → DH → DK → Prop
  | .tup ds, h, Q => Q (.tup ds.reverse) h
  | .frz ds, h, Q => Q (.frz ds.reverse) h
  | .ref a, h, Q => lstAt (h a) fun ds => Q (.frz ds.reverse) h
  | _, _, _ => False
theorem de_revA {X : Cx} {G : Option (Hp × DH)} {a : Expr} {ta : DTE} {k : Nat} {p1 p2 p3 pos : Pos} (ha : DE X G a ta) : DE X G (.Subscript a (.Slice none none (some (.UnaryOp .USub (.Constant (.int 1) k p1) p2)) p3) pos) (dUn rRevA ta) :=
  PE.of (PE.seal (pe_revA ha)) fun σ H Q ⟨env, h, Q', g, er, hr, q, fin⟩ => ⟨env, h, _, g, er, hr, q, fun x H1 d h1 k1 r1 p1 q1 => by
    have fz : ∀ {b : Addr} {ds : List D} {vs : List V}, Rd H1 b (.lst vs) → RpL X.K H1 ds vs → Q' (.frz ds.reverse) h1 → ∃ a xs, V.ref b = .ref a ∧ ((SqL X.K H1 a xs ∧ ∀ p, H1 p = none → slQ X.prog X.w Q (.ref p) (upd H1 p (.lst xs.reverse))) ∨ (SqT X.K H1 a xs ∧ ∀ p, H1 p = none → slQ X.prog X.w Q (.ref p) (upd H1 p (.tup xs.reverse)))) := fun {b ds vs} s l q => ⟨b, vs, rfl, .inl ⟨.inl s, fun p n hp ok => by
      obtain ⟨H2, f, k2, r2, p2⟩ := laidV r1 n l.reverse ok
      exact ⟨H2, f, fin _ H2 _ h1 (k1.trans k2) r2 p2 q⟩⟩⟩
    cases d with
    | tup ds =>
      unfold Rp at p1
      obtain ⟨b, vs, rfl, s, l⟩ := p1
      exact ⟨b, vs, rfl, .inr ⟨s, fun p n hp ok => ⟨_, FrzOf.refl, fin _ _ (.tup ds.reverse) h1 (k1.trans (Gr.under n)) (r1.under n) (by unfold Rp; exact ⟨p, _, rfl, SqT.of upd_same, RpL.monoT (TK.new n) _ _ l.reverse⟩) q1⟩⟩⟩
    | frz ds =>
      unfold Rp at p1
      obtain ⟨b, vs, rfl, s, l⟩ := p1
      exact fz (.inr s) l q1
    | ref b =>
      have q1 : asL (.ref b) h1 fun ds => Q' (.frz ds.reverse) h1 := q1
      obtain ⟨l, ds, vs, rfl, e0, e1, e2, l2, q2⟩ := asL_of q1 p1 r1
      exact fz (.inl e2) l2 q2
    | _ => exact q1.elim⟩
/-- xs[::-1] of a told list, told -/
def dRevN (t : DTE) : DTE := fun env h Q => t env h fun d h1 => asL d h1 fun ds => ∀ p, h1 p = none → Q (.ref p) (up h1 p (.lst ds.reverse))
theorem de_revN {X : Cx} {G : Option (Hp × DH)} {a : Expr} {ta : DTE} {k : Nat} {p1 p2 p3 pos : Pos} (ha : DE X G a ta) : DE X G (.Subscript a (.Slice none none (some (.UnaryOp .USub (.Constant (.int 1) k p1) p2)) p3) pos) (dRevN ta) :=
  PE.of (pe_revA ha) fun σ H Q ⟨env, h, Q', g, er, hr, q, fin⟩ => ⟨env, h, _, g, er, hr, q, fun x H1 d h1 k1 r1 p1 q1 => by
    obtain ⟨l, ds, vs, rfl, e0, e1, e2, l2, q2⟩ := asL_of q1 p1 r1
    exact ⟨l, vs, rfl, .inl ⟨.inl (.inl e2), fun p n => fin (.ref p) _ (.ref p) _ (k1.trans (Gr.new n)) (r1.new (o := .lst ds.reverse) n ⟨_, upd_same, RpL.monoT (TK.new n) _ _ l2.reverse⟩) (by unfold Rp; rfl) (q2 p (r1.free n))⟩⟩⟩
/-! ### t[::s] of a tuple, s 1 or -1 -/
section
variable {prog : Program} {w : World} {A : Around} {E : Value → Shared → Prop} {s : Shared}
theorem sliceApplied_on {sl : Addr} {vs : Value} {n : Nat} {Q : Int × Int × Nat → Shared → Prop} (hs : s.heap.IsSliceOf sl .none .none vs) (ps : IsPart vs (some 1))
    (h : Q (0, 1, n) s) : wpAny (model prog w) A (Builtin.Slice.sliceApplied (.ref sl) (pure (n : Int))) Q E s := by
  obtain ⟨os, hos, hcs, hds⟩ := id hs
  unfold Builtin.Slice.sliceApplied Builtin.Slice.sliceFields
  refine wpAny_bind (wpAny_bind (wpAny_field hos hds (x := .none) rfl (wpAny_bind (wpAny_field hos hds (x := .none) rfl (wpAny_bind (wpAny_field hos hds (x := vs) rfl (wpAny_pure ?_)))))))
  refine wpAny_bind (slicePart_ ps ?_)
  show wpAny _ _ (if ((1 : Int) == 0) = true then _ else _) _ _ s
  rw [if_neg (by decide)]
  refine wpAny_bind (slicePart_none (wpAny_bind (slicePart_none (wpAny_bind (wpAny_pure ?_)))))
  show wpAny _ _ (pure ((0 : Int), (1 : Int), Builtin.Slice.slicePlaces 0 (n : Int) 1)) _ _ s
  have e : Builtin.Slice.slicePlaces 0 (n : Int) 1 = n := by
    unfold Builtin.Slice.slicePlaces
    rw [if_pos (by decide), Int.ediv_one]
    split <;> omega
  rw [e]
  exact wpAny_pure h
theorem getItem_tuple_on {t sl : Addr} {items : Array Value} {vs : Value} {Q : Value → Shared → Prop} (ht : IsTup s.heap t items) (hs : s.heap.IsSliceOf sl .none .none vs) (ps : IsPart vs (some 1))
    (h : Q (.ref t) s) : wpAny (model prog w) A (getItem (.ref t) (.ref sl)) Q E s := by
  obtain ⟨os, hos, hcs, hds⟩ := id hs
  have hTs : s.TypeIs (.ref sl) "slice" := ⟨os, hos, hcs⟩
  unfold getItem
  try with_reducible refine wpAny_holding ?_
  first | refine wpAny_bind (wpAny_pure ?_) | skip
  refine wpAny_bind (wpAny_sequenceKey ht.typeIs (by decide) ?_)
  refine wpAny_bind (wpAny_callSpecial?_slot (name := Str.ofString "__getitem__") ht.typeIs PyProof.Rows.slot_tuple_getitem
    (wpAny_call_entry PyProof.Rows.slot_tuple_getitem ht.typeIs entry_tuple_getitem ?_ (args_tuple_getitem _ _)))
  show wpAny _ _ (Builtin.Tuple.tupleItemsOf (.ref t) >>= _) _ _ s
  refine wpAny_bind (tupleItemsOf_ ht ?_)
  refine wpAny_bind (wpAny_typeOf hTs ?_)
  rw [if_pos (by decide)]
  refine wpAny_bind (sliceApplied_on hs ps ?_)
  have hyes : (((0 : Int) == 0 && (1 : Int) == 1 && items.size == items.size) = true) := by simp
  show wpAny _ _ (if ((0 : Int) == 0 && (1 : Int) == 1 && items.size == items.size) = true then _ else _) _ _ s
  rw [if_pos hyes]
  unfold Builtin.Tuple.tupleIsExact
  refine wpAny_bind (wpAny_bind (wpAny_typeOf ht.typeIs (wpAny_pure ?_)))
  rw [if_pos (by decide)]
  first
    | exact wpAny_bind (wpAny_rule (wpAny_pure ⟨_, rfl, wpAny_pure h⟩))
    | exact wpAny_bind (wpAny_pure (wpAny_pure ⟨_, rfl, wpAny_pure h⟩))
    | exact wpAny_pure ⟨_, rfl, wpAny_pure h⟩
end
section
variable {X : Cx}
def tStepT (K : PySem.W.Frag) (te ts : TE) : TE := fun σ H Q => te σ H fun x H1 => ts σ H1 fun y H2 => ∃ i, y = .int i ∧ ∃ a xs, x = .ref a ∧ SqT K H2 a xs ∧ ((i = 1 ∧ Q (.ref a) H2) ∨ (i = -1 ∧ ∀ p, H2 p = none → Q (.ref p) (upd H2 p (.tup xs.reverse))))
theorem pe_stepT {e s : Expr} {te ts : TE} {p3 pos : Pos} (he : PE X e te) (hs : PE X s ts) : PE X (.Subscript e (.Slice none none (some s) p3) pos) (tStepT X.K te ts) := by
  refine ⟨fun pins s0 σ H Q I h => ?_⟩
  refine Subscript_ (thn (he.run pins s0 σ H _ I h) fun v s1 ⟨x, H1, I1, r1, q1⟩ => ?_)
  refine wpAny_Slice (thn (po_none.run pins s1 σ H1 (fun o H2 => o = none ∧ H2 = H1) I1 ⟨rfl, rfl⟩) fun vl s2 ⟨l, H2, I2, pl, el, e2⟩ => ?_)
  subst el e2
  refine thn (po_none.run pins s2 σ H2 (fun o H3 => o = none ∧ H3 = H2) I2 ⟨rfl, rfl⟩) fun vu s3 ⟨u, H3, I3, pu, eu, e3⟩ => ?_
  subst eu e3
  refine thn ((po_some hs).run pins s3 σ H3 (fun o H2 => match o with
    | some i => ∃ a xs, x = .ref a ∧ SqT X.K H2 a xs ∧ ((i = 1 ∧ Q (.ref a) H2) ∨ (i = -1 ∧ ∀ p, H2 p = none → Q (.ref p) (upd H2 p (.tup xs.reverse))))
    | none => False) I3 q1) fun vs s4 ⟨o, H4, I4, ps, q4⟩ => ?_
  cases o with
  | none => exact q4.elim
  | some i =>
    obtain ⟨a, xs, rfl, hx, q⟩ := q4
    cases r1
    cases pl
    cases pu
    have I5 : Inv X pins σ H4 { s4 with heap := s4.heap.push { cls := .type "slice", data := .fields #[.none, .none, vs] } } := I4.kept (t' := s4.toks) fun b ob q => Heap.get?_push_of_some _ q
    obtain ⟨its, r, ht, hz⟩ := I5.tuple hx
    have hlen := r.length
    show wpAny (model X.prog X.w) X.A (subscriptTail e (.Slice none none (some s) p3) (.ref a) (.ref s4.heap.objs.size)) (EP X pins σ Q) X.xe { s4 with heap := s4.heap.push { cls := .type "slice", data := .fields #[.none, .none, vs] } }
    refine tail_any (ops := [.ref a, .ref s4.heap.objs.size]) ht.typeIs (PyProof.Rows.slot_tuple_getitem.lookup) ?_ (by with_unfolding_all rfl)
    rcases q with ⟨rfl, q⟩ | ⟨rfl, q⟩
    · exact getItem_tuple_on ht (Heap.IsSliceOf.new _ .none .none vs) ps ⟨.ref a, H4, I5, rfl, q⟩
    · refine getItem_tuple_back ht (Heap.IsSliceOf.new _ .none .none vs) ps ?_ (by rw [List.size_toArray]; omega)
      refine ⟨.ref _, _, I5.laid (t' := s4.toks) (o := .tup xs.reverse) (fun b ob q => Heap.get?_push_of_some _ q) (Nat.le_refl _) ?_, rfl, q _ (I5.hok.fresh (Nat.le_refl _))⟩
      exact ⟨by rw [List.length_reverse]; exact hz, _, r.reverse, IsTup.new _ _⟩
end
/-- t[::s] of a tuple -/
def asTp : D → (List D → Prop) → Prop
  | .tup ds, k => k ds
  | _, _ => False
def dStepT (t u : DTE) : DTE := fun env h Q => t env h fun d h1 => u env h1 fun e h2 => asI e fun i => asTp d fun ds => (i = 1 ∧ Q (.tup ds) h2) ∨ (i = -1 ∧ Q (.tup ds.reverse) h2)
theorem de_stepT {X : Cx} {G : Option (Hp × DH)} {a s : Expr} {ta ts : DTE} {p3 pos : Pos} (ha : DE X G a ta) (hs : DE X G s ts) : DE X G (.Subscript a (.Slice none none (some s) p3) pos) (dStepT ta ts) :=
  PE.of (pe_stepT ha hs) fun σ H Q ⟨env, h, Q', g, er, hr, q, fin⟩ => ⟨env, h, _, g, er, hr, q, fun x H1 d h1 k1 r1 p1 q1 => ⟨env, h1, _, g.on k1, er.mono k1, r1, q1, fun y H2 e h2 k2 r2 p2 q2 => by
    obtain ⟨i, rfl, rfl, q3⟩ := asI_of q2 p2
    refine ⟨i, rfl, ?_⟩
    cases d with
    | tup ds =>
      have p1 := Rp.mono k2 _ _ p1
      unfold Rp at p1
      obtain ⟨b, vs, rfl, s, l⟩ := p1
      refine ⟨b, vs, rfl, s, ?_⟩
      rcases q3 with ⟨rfl, q3⟩ | ⟨rfl, q3⟩
      · exact .inl ⟨rfl, fin _ H2 (.tup ds) h2 (k1.trans k2) r2 (by unfold Rp; exact ⟨b, vs, rfl, s, l⟩) q3⟩
      · exact .inr ⟨rfl, fun p n => fin _ _ (.tup ds.reverse) h2 ((k1.trans k2).trans (Gr.under n)) (r2.under n) (by unfold Rp; exact ⟨p, _, rfl, SqT.of upd_same, RpL.monoT (TK.new n) _ _ l.reverse⟩) q3⟩
    | _ => exact q3.elim⟩⟩
end DL
set_option Elab.async false
set_option linter.all false
set_option maxRecDepth 100000
set_option maxHeartbeats 4000000
namespace DL
open PySem PySem.Spec PyProof.Rows L2
/-! ### enumerate of a tuple -/
/-- the tuple at a as it stands at each turn, each item in a new pair -/
def IteT (K : PySem.W.Frag) (a : Addr) : It :=
  ⟨fun i H => ∃ (xs : List V) (x : V), SqT K H a xs ∧ xs[i]? = some x, fun i H v H' => ∃ T x, v = .ref T ∧ H T = none ∧ H' = upd H T (.tup [.int (i : Nat), x]) ∧ ∀ xs, SqT K H a xs → xs[i]? = some x, fun i H => ∃ xs : List V, SqT K H a xs ∧ xs.length = i⟩
theorem turn_enumT {P : Program} {w : World} {K : PySem.W.Frag} {elts : List Expr} {kk : Nat} {tpos : Pos} (a e it : Addr) :
    Turn P w K (.Tuple elts kk tpos) (IteT K a) [e, it] e (fun i h => (∃ old, IsEnum h e it ((i : Nat) : Int) old) ∧ h.IsTupleIter it a i ∧ e ≠ it) where
  mem := by simp
  obj := fun i h st b hb => by
    obtain ⟨⟨old, he⟩, ⟨o, ho, hc, hd⟩, _⟩ := st
    have e' : b = e ∨ b = it := by simpa using hb
    rcases e' with z | z
    · rw [z]; exact ⟨_, he, fun v q => nomatch q⟩
    · rw [z]; exact ⟨o, ho, fun v q => by rw [hd] at q; cases q⟩
  keep := fun i h h' st k => let ⟨⟨old, he⟩, hi, hne⟩ := st; ⟨⟨old, k e (by simp) _ he⟩, hi.at fun o q => k it (by simp) o q, hne⟩
  item := by
    intro X hP hw hK hc i pins s σ H E I hf st hg
    subst hP hw hK
    obtain ⟨⟨old, he⟩, hit, hne⟩ := st
    obtain ⟨xs, x, hq, hx⟩ := hg
    obtain ⟨its, rv, p, hz⟩ := I.tuple hq
    obtain ⟨u, hu, ru⟩ := rv.get hx
    have hel : e < s.heap.objs.size := Heap.lt_size he
    have hil : it < s.heap.objs.size := by obtain ⟨_, q, _⟩ := hit; exact Heap.lt_size q
    have hea : e ≠ a := fun z => by
      have p := p
      obtain ⟨o, ho, hr⟩ := p
      rw [← z] at ho
      rw [he] at ho
      cases ho
      simp at hr
    have hai : a ≠ it := fun z => by
      have p := p
      obtain ⟨o, ho, hr⟩ := p
      obtain ⟨o', ho', hc', hd'⟩ := hit
      rw [z, ho'] at ho
      cases ho
      simp [hd'] at hr
    have hlt : i < its.toArray.size := by
      have := rv.length
      have := (List.getElem?_eq_some_iff.mp hx).1
      simp
      omega
    refine wpAny_pyNext_enum_itemC (Draws.tuple (A := X.A.in1) (I.ok.hd hc) it a hai its.toArray) he ⟨hit, p⟩ hlt hne (by simp [hne, hea]) fun u' h' tk hP ho hit' hT hsz hk => ?_
    have eu : u' = u := by
      have hP : its.toArray[i]? = some u' := hP
      rw [List.getElem?_toArray, hu] at hP
      exact (Option.some.inj hP).symm
    subst eu
    refine ⟨_, rfl, wpAny_letOwnedTupleGo_enum (s := { s with heap := h', toks := tk + 1 }) ho fun h'' he' sb => ?_⟩
    have hT2 : h''.get? s.heap.objs.size = some { cls := .type "tuple", data := .seq #[.int i tk, u'] } := (sb.2 _ (Nat.ne_of_gt hel)).trans hT
    have new : ObjOk X.prog X.w (upd H s.heap.objs.size (.tup [.int (i : Nat), x])) h'' s.heap.objs.size (.tup [.int (i : Nat), x]) :=
      ⟨by show 2 ≤ sizeLine; decide, [.int i tk, u'], .cons ⟨_, rfl⟩ (.cons ru .nil), ⟨_, hT2, rfl, _, rfl⟩⟩
    have I1 : Inv X pins σ (upd H s.heap.objs.size (.tup [.int (i : Nat), x])) { s with heap := h'', toks := tk + 1 } :=
      I.turnedNew (ch := [e, it]) (fun b ob hb q => (sb.2 b (fun z => hb (by simp [z]))).trans (hk b ob (fun z => hb (by simp [z])) (fun z => hb (by simp [z])) q)) hf (Nat.le_refl _) new
    refine ⟨.ref s.heap.objs.size, _, I1, rfl, ⟨_, x, rfl, I.hok.fresh (Nat.le_refl _), rfl, fun ys hy => by rw [I.tuple_inj hy hq]; exact hx⟩, ⟨⟨u', ?_⟩, hit'.1.at fun o q => (sb.2 it (Ne.symm hne)).trans q, hne⟩, fun b hb => ?_⟩
    · have e1 : ((i + 1 : Nat) : Int) = (i : Int) + 1 := by omega
      rw [e1]; exact he'
    · have hb' : b < s.heap.objs.size := by
        have e' : b = e ∨ b = it := by simpa using hb
        rcases e' with z | z
        · rw [z]; exact hel
        · rw [z]; exact hil
      rw [upd_ne (Nat.ne_of_lt hb')]
      exact (hf b hb).1
  done := by
    intro X hP hw hK hc i pins s σ H E I hf st hg
    subst hP hw hK
    obtain ⟨⟨old, he⟩, hit, hne⟩ := st
    obtain ⟨xs, hq, hx⟩ := hg
    obtain ⟨its, rv, p, hz⟩ := I.tuple hq
    obtain ⟨f0, f1, f2, f3, f4, f5⟩ := hf it (by simp)
    have hl := rv.length
    have hai : a ≠ it := fun z => by
      have p := p
      obtain ⟨o, ho, hr⟩ := p
      obtain ⟨o', ho', hc', hd'⟩ := hit
      rw [z, ho'] at ho
      cases ho
      simp [hd'] at hr
    have hs : its.toArray.size = i := by simp; omega
    refine wpAny_pyNext_enum_endD (Draws.tuple (A := X.A.in1) (I.ok.hd hc) it a hai its.toArray) he ⟨by rw [hs]; exact hit, p⟩ fun h' eb => ⟨rfl, I.turned (t' := s.toks) (fun b o hb q => eb b o hb q) f0 f1 f3 f4 f5⟩
  self := fun A i s Q E st h => let ⟨⟨_, he⟩, _⟩ := st; wpAny_pyIter_enum he h
set_option maxHeartbeats 1000000 in
theorem meets_enumerate_new1 {v : Value} {o : Obj} {H : Heap → Prop} (B : Begins v o H) :
    Meets (Builtin.«enumerate.__new__» ⟨[.type "enumerate", v], []⟩) (fun _ R s => H s.heap ∧
      R (.ok (.ret (.ref (s.heap.push o).objs.size))) { s with heap := (s.heap.push o).push { cls := .type "enumerate", data := .fields #[.none, .bool false, .ref s.heap.objs.size, rawInt 0, .none, .none] } }) :=
  .of_wp fun prog w A R s h => by
    obtain ⟨hp, g, d, tk, os⟩ := s; obtain ⟨h1, h⟩ := h
    have hsub := sub_enumerate
    have q1 : ∀ {A' : Around} {E : Value → Shared → Prop} {Q : Value → Shared → Prop}, Q (.ref hp.objs.size) ⟨hp.push o, g, d, tk, os⟩ → wpAny (model prog w) A' (pyIter v) Q E ⟨hp, g, d, tk, os⟩ :=
      fun q => B.iter prog w _ _ ⟨hp, g, d, tk, os⟩ _ h1 q
    wp_walk using q1
    refine wpAny_stack_any fun st => wpAny_pure ?_
    split
    · rename_i c _ _ _ _ _
      cases (c == Value.type "enumerate")
      · wp_walk using q1
        exact ⟨_, rfl, h⟩
      · wp_walk using q1
        exact ⟨_, rfl, h⟩
    · wp_walk using q1
      exact ⟨_, rfl, h⟩
theorem call_enumerate_tuple {prog : Program} {w : World} {A : Around} {E : Value → Shared → Prop} {s : Shared} {l : Addr} {items : Array Value} {Q : Value → Shared → Prop} (hL : s.heap.IsTuple l items)
    (h : ∀ h', IsEnum h' (s.heap.objs.size + 1) s.heap.objs.size 0 .none → h'.IsTupleIter s.heap.objs.size l 0 → (∀ b o, s.heap.get? b = some o → h'.get? b = some o) → Q (.ref (s.heap.objs.size + 1)) { s with heap := h' }) :
    wpAny (model prog w) A (call (.type "enumerate") [.ref l]) Q E s := by
  refine callType_new F.called_enumerate (by decide) (F.typeCall_enumerate_1 _) (F.newCall_enumerate_1 _) (fun obj => F.args_object_init_2 obj _) F.entry_enumerate_new
    (meets_enumerate_new1 (begins_tuple l items)) ⟨hL, ?_⟩
  have hz : (s.heap.push { cls := .type "tuple_iterator", data := .fields #[.ref l, .int 0 0] }).objs.size = s.heap.objs.size + 1 := Heap.size_push ..
  show _ ∧ _
  rw [hz]
  have he : IsEnum ((s.heap.push { cls := .type "tuple_iterator", data := .fields #[.ref l, .int 0 0] }).push
      { cls := .type "enumerate", data := .fields #[.none, .bool false, .ref s.heap.objs.size, rawInt 0, .none, .none] }) (s.heap.objs.size + 1) s.heap.objs.size 0 .none := by
    have := Heap.get?_push_size (s.heap.push { cls := .type "tuple_iterator", data := .fields #[.ref l, .int 0 0] })
      (o := { cls := .type "enumerate", data := .fields #[.none, .bool false, .ref s.heap.objs.size, rawInt 0, .none, .none] }) rfl
    rw [hz] at this
    exact this
  exact ⟨⟨_, he, rfl⟩, h _ he ⟨_, Heap.get?_push_of_some _ (Heap.get?_push_size _ rfl), rfl, rfl⟩ fun b o x => Heap.get?_push_of_some _ (Heap.get?_push_of_some _ x)⟩
def iEnumA (K : PySem.W.Frag) (ta : TA) : TI := fun σ H R => ta σ H fun vs H1 => ∃ a xs, vs = [.ref a] ∧ ((SqL K H1 a xs ∧ R (Ite K a) H1) ∨ (SqT K H1 a xs ∧ R (IteT K a) H1))
theorem pi_enumA {X : Cx} {e : Expr} {ta : TA} {p pos tpos : Pos} {elts : List Expr} {kk : Nat} (hg : Gl X "enumerate") (hm : X.mg "enumerate" = none) (ha : PA X [e] ta) (hs : starEach [e] X.env = [(false, eval e X.env)] := by rfl) :
    PI X (.Tuple elts kk tpos) (.Call (.Name "enumerate" p) [e] [] pos) (iEnumA X.K ta) := by
  refine ⟨fun pins s σ H R I h => ?_⟩
  refine Call_ (ld_blt I hg hm boot_enumerate (PyProof.Rows.callWith_type1 (thn (ha.run pos pins s σ H _ I h) fun us s1 ⟨vs, H1, I1, r1, q1⟩ => ?_) hs rfl))
  obtain ⟨a, xs, ex, q⟩ := q1
  subst ex
  cases r1 with
  | cons r rr =>
    cases rr
    cases r
    have fr : ∀ b, b ∈ [s1.heap.objs.size + 1, s1.heap.objs.size] → FpOk X pins H1 b := fun b hb => by
      have e' : b = s1.heap.objs.size + 1 ∨ b = s1.heap.objs.size := by simpa using hb
      have hle : s1.heap.objs.size ≤ b := by
        rcases e' with z | z
        · rw [z]; exact Nat.le_add_right _ _
        · rw [z]; exact Nat.le_refl _
      exact I1.fpOk hle (I1.hok.fresh hle)
    rcases q with ⟨hq, q⟩ | ⟨hq, q⟩
    · obtain ⟨its, rv, p', hz⟩ := I1.list hq
      refine call_enumerate_list p'.isList fun h' he hit hsz hk => wpAny_pyIter_enum he ?_
      have I2 : Inv X pins σ H1 { s1 with heap := h' } := I1.kept (t' := s1.toks) hk
      exact ⟨s1.heap.objs.size + 1, [s1.heap.objs.size + 1, s1.heap.objs.size], _, _, H1, rfl, I2, turn_enum a (s1.heap.objs.size + 1) s1.heap.objs.size, ⟨⟨.none, he⟩, hit, Nat.succ_ne_self _⟩, fr, q⟩
    · obtain ⟨its, rv, p', hz⟩ := I1.tuple hq
      refine call_enumerate_tuple p' fun h' he hit hk => wpAny_pyIter_enum he ?_
      have I2 : Inv X pins σ H1 { s1 with heap := h' } := I1.kept (t' := s1.toks) hk
      exact ⟨s1.heap.objs.size + 1, [s1.heap.objs.size + 1, s1.heap.objs.size], _, _, H1, rfl, I2, turn_enumT a (s1.heap.objs.size + 1) s1.heap.objs.size, ⟨⟨.none, he⟩, hit, Nat.succ_ne_self _⟩, fr, q⟩
end DL
set_option Elab.async false
set_option linter.all false
set_option maxRecDepth 100000
set_option maxHeartbeats 4000000
namespace DL
open PySem PySem.Spec PyProof.Rows L2
/-! ### enumerate, zip -/
def enumD (ds : List D) : List D := ds.zipIdx.map fun p => .tup [.int (p.2 : Nat), p.1]
def zipD (xs ys : List D) : List D := List.zipWith (fun a b => .tup [a, b]) xs ys
/-- what a list, a tuple holds, and what must stay -/
def asLs : D → DH → (List D → (DH → Prop) → Prop) → Prop
  | .frz ds, _, k => k ds fun _ => True
  | .ref a, h, k => lstAt (h a) fun ds => k ds fun h' => h' a = some (.lst ds)
  | _, _, _ => False
def asTs : D → (List D → Prop) → Prop
  | .tup ds, k => k ds
  | _, _ => False
theorem enumD_get {ds : List D} {i : Nat} {d : D} (h : ds[i]? = some d) : (enumD ds)[i]? = some (.tup [.int (i : Nat), d]) := by
  unfold enumD
  rw [List.getElem?_map, List.getElem?_zipIdx, h]
  simp
theorem enumD_len {ds : List D} : (enumD ds).length = ds.length := by simp [enumD]
theorem zipD_get {xs ys : List D} {i : Nat} {x y : D} (h : xs[i]? = some x) (h2 : ys[i]? = some y) : (zipD xs ys)[i]? = some (.tup [x, y]) := by
  unfold zipD
  rw [List.getElem?_zipWith, h, h2]
theorem zipD_len {xs ys : List D} : (zipD xs ys).length = min xs.length ys.length := by simp [zipD]
section
variable {K : PySem.W.Frag} {mg : Str → Option Value}
/-- a list that is read through a walk -/
structure LsOk (K : PySem.W.Frag) (mg : Str → Option Value) (H1 : Hp) (h0 : DH) (a : Addr) (ds : List D) (chk : DH → Prop) : Prop where
  at_ : ∀ H h, Gr K H1 h0 H h → HR K mg H h → chk h → ∃ vs, SqL K H a vs ∧ RpL K H ds vs
theorem asLs_of {H1 : Hp} {h1 : DH} {d : D} {v : V} {k : List D → (DH → Prop) → Prop} (q : asLs d h1 k) (p : Rp K H1 d v) (hr : HR K mg H1 h1) : ∃ a vs ds chk, v = .ref a ∧ SqL K H1 a vs ∧ LsOk K mg H1 h1 a ds chk ∧ k ds chk := by
  cases d with
  | frz ds =>
    unfold Rp at p
    obtain ⟨a, vs, rfl, hs, l⟩ := p
    exact ⟨a, vs, ds, _, rfl, hs.seq, ⟨fun H h g _ _ => ⟨vs, (g.tk.2 _ _ hs).seq, RpL.mono g _ _ l⟩⟩, q⟩
  | ref a =>
    unfold Rp at p
    have q : lstAt (h1 a) fun ds => k ds fun h' => h' a = some (.lst ds) := q
    cases e : h1 a with
    | none => rw [e] at q; exact q.elim
    | some o =>
      rw [e] at q
      cases o with
      | lst ds =>
        obtain ⟨vs, e1, l⟩ := hr a _ e
        exact ⟨a, vs, ds, _, p, SqL.of e1, ⟨fun H h g r c => by
          obtain ⟨vs, e1, l⟩ := r.lst c
          exact ⟨vs, SqL.of e1, l⟩⟩, q⟩
      | _ => exact q.elim
  | _ => exact q.elim
theorem it_enum {H1 : Hp} {h0 : DH} {a : Addr} {ds : List D} {chk : DH → Prop} (L : LsOk K mg H1 h0 a ds chk) : ItOk K mg H1 h0 (Ite K a) (enumD ds) chk := by
  refine ⟨fun i H h g r c hi => ?_, fun i H h x H' g r c hi y => ?_, fun H h g r c => ?_⟩
  · obtain ⟨vs, s, l⟩ := L.at_ H h g r c
    rw [enumD_len] at hi
    have hi' : i < vs.length := by rw [l.length]; exact hi
    exact ⟨vs, vs[i], s, by simp [hi']⟩
  · obtain ⟨vs, s, l⟩ := L.at_ H h g r c
    rw [enumD_len] at hi
    obtain ⟨T, x', rfl, nT, rfl, y⟩ := y
    obtain ⟨v, e1, r1⟩ := l.get (List.getElem?_eq_getElem hi)
    have e2 := y vs s
    rw [e1] at e2
    cases e2
    refine ⟨Gr.under nT, r.under nT, _, enumD_get (List.getElem?_eq_getElem hi), ?_⟩
    unfold Rp
    exact ⟨T, _, rfl, SqT.of upd_same, RpL.cons (by unfold Rp; rfl) (RpL.cons (Rp.monoT (TK.new nT) _ _ r1) RpL.nil)⟩
  · obtain ⟨vs, s, l⟩ := L.at_ H h g r c
    exact ⟨vs, s, by rw [l.length, enumD_len]; exact Nat.le_refl _⟩
theorem it_enumT {H1 : Hp} {h0 : DH} {a : Addr} {ds : List D} {vs : List V} (s : SqT K H1 a vs) (l : RpL K H1 ds vs) : ItOk K mg H1 h0 (IteT K a) (enumD ds) fun _ => True := by
  refine ⟨fun i H h g r c hi => ?_, fun i H h x H' g r c hi y => ?_, fun H h g r c => ?_⟩
  · rw [enumD_len] at hi
    have hi' : i < vs.length := by rw [l.length]; exact hi
    exact ⟨vs, vs[i], g.tk.1 _ _ s, by simp [hi']⟩
  · rw [enumD_len] at hi
    obtain ⟨T, x', rfl, nT, rfl, y⟩ := y
    obtain ⟨v, e1, r1⟩ := (RpL.mono g _ _ l).get (List.getElem?_eq_getElem hi)
    have e2 := y vs (g.tk.1 _ _ s)
    rw [e1] at e2
    cases e2
    refine ⟨Gr.under nT, r.under nT, _, enumD_get (List.getElem?_eq_getElem hi), ?_⟩
    unfold Rp
    exact ⟨T, _, rfl, SqT.of upd_same, RpL.cons (by unfold Rp; rfl) (RpL.cons (Rp.monoT (TK.new nT) _ _ r1) RpL.nil)⟩
  · exact ⟨vs, g.tk.1 _ _ s, by rw [l.length, enumD_len]⟩
theorem it_zip {H1 : Hp} {h0 : DH} {a b : Addr} {xs ys : List D} {c1 c2 : DH → Prop} (L1 : LsOk K mg H1 h0 a xs c1) (L2 : LsOk K mg H1 h0 b ys c2) : ItOk K mg H1 h0 (Itz K a b) (zipD xs ys) fun h => c1 h ∧ c2 h := by
  refine ⟨fun i H h g r c hi => ?_, fun i H h x H' g r c hi y => ?_, fun H h g r c => ?_⟩
  · obtain ⟨vs, s, l⟩ := L1.at_ H h g r c.1
    obtain ⟨us, t, m⟩ := L2.at_ H h g r c.2
    rw [zipD_len] at hi
    have h1 : i < vs.length := by rw [l.length]; omega
    have h2 : i < us.length := by rw [m.length]; omega
    exact ⟨vs, us, vs[i], us[i], s, t, by simp [h1], by simp [h2]⟩
  · obtain ⟨vs, s, l⟩ := L1.at_ H h g r c.1
    obtain ⟨us, t, m⟩ := L2.at_ H h g r c.2
    rw [zipD_len] at hi
    have h1 : i < xs.length := by omega
    have h2 : i < ys.length := by omega
    obtain ⟨T, x', y', rfl, nT, rfl, z1, z2⟩ := y
    obtain ⟨v, e1, r1⟩ := l.get (List.getElem?_eq_getElem h1)
    obtain ⟨u, e2, r2⟩ := m.get (List.getElem?_eq_getElem h2)
    have f1 := z1 vs s
    have f2 := z2 us t
    rw [e1] at f1
    rw [e2] at f2
    cases f1
    cases f2
    refine ⟨Gr.under nT, r.under nT, _, zipD_get (List.getElem?_eq_getElem h1) (List.getElem?_eq_getElem h2), ?_⟩
    unfold Rp
    exact ⟨T, _, rfl, SqT.of upd_same, RpL.cons (Rp.monoT (TK.new nT) _ _ r1) (RpL.cons (Rp.monoT (TK.new nT) _ _ r2) RpL.nil)⟩
  · obtain ⟨vs, s, l⟩ := L1.at_ H h g r c.1
    obtain ⟨us, t, m⟩ := L2.at_ H h g r c.2
    exact ⟨vs, us, s, t, by rw [l.length, m.length, zipD_len]; omega⟩
theorem it_zipT {H1 : Hp} {h0 : DH} {a b : Addr} {xs ys : List D} {vs us : List V} (s1 : SqT K H1 a vs) (s2 : SqT K H1 b us) (l1 : RpL K H1 xs vs) (l2 : RpL K H1 ys us) : ItOk K mg H1 h0 (RZ.ItzT K a b) (zipD xs ys) fun _ => True := by
  refine ⟨fun i H h g r c hi => ?_, fun i H h x H' g r c hi y => ?_, fun H h g r c => ?_⟩
  · rw [zipD_len] at hi
    have h1 : i < vs.length := by rw [l1.length]; omega
    have h2 : i < us.length := by rw [l2.length]; omega
    exact ⟨vs, us, vs[i], us[i], g.tk.1 _ _ s1, g.tk.1 _ _ s2, by simp [h1], by simp [h2]⟩
  · rw [zipD_len] at hi
    have h1 : i < xs.length := by omega
    have h2 : i < ys.length := by omega
    obtain ⟨T, x', y', rfl, nT, rfl, z1, z2⟩ := y
    obtain ⟨v, e1, r1⟩ := (RpL.mono g _ _ l1).get (List.getElem?_eq_getElem h1)
    obtain ⟨u, e2, r2⟩ := (RpL.mono g _ _ l2).get (List.getElem?_eq_getElem h2)
    have f1 := z1 vs (g.tk.1 _ _ s1)
    have f2 := z2 us (g.tk.1 _ _ s2)
    rw [e1] at f1
    rw [e2] at f2
    cases f1
    cases f2
    refine ⟨Gr.under nT, r.under nT, _, zipD_get (List.getElem?_eq_getElem h1) (List.getElem?_eq_getElem h2), ?_⟩
    unfold Rp
    exact ⟨T, _, rfl, SqT.of upd_same, RpL.cons (Rp.monoT (TK.new nT) _ _ r1) (RpL.cons (Rp.monoT (TK.new nT) _ _ r2) RpL.nil)⟩
  · exact ⟨vs, us, g.tk.1 _ _ s1, g.tk.1 _ _ s2, by rw [l1.length, l2.length, zipD_len]; omega⟩
end
/-- what a tuple, a list holds, and what must stay -/
def asEn : D → DH → (List D → (DH → Prop) → Prop) → Prop
  | .tup ds, _, k => k ds fun _ => True
  | d, h, k => asLs d h k
def dEnum (t : DTA) : DTI := fun env h Q => t env h fun ds h1 => oneD ds fun d => asEn d h1 fun xs chk => Q (enumD xs) chk h1
section
variable {X : Cx} {G : Option (Hp × DH)} {e e2 : Expr} {ta : DTA} {p pos tpos : Pos} {elts : List Expr} {kk : Nat}
theorem di_enum (hg : Gl X "enumerate") (hm : X.mg "enumerate" = none) (ha : DA X G [e] ta) (hs : starEach [e] X.env = [(false, eval e X.env)] := by rfl) : DI X G (.Tuple elts kk tpos) (.Call (.Name "enumerate" p) [e] [] pos) (dEnum ta) :=
  PI.of (pi_enumA hg hm ha hs) fun σ H R ⟨env, h, Q', g, er, hr, q, fin⟩ => ⟨env, h, _, g, er, hr, q, fun vs H1 ds h1 k r1 p1 q1 => by
    obtain ⟨d, v, rfl, rfl, p2, q2⟩ := oneD_of (X := X) q1 p1
    have ls : asLs d h1 (fun xs chk => Q' (enumD xs) chk h1) → ∃ a xs, [v] = [V.ref a] ∧ ((SqL X.K H1 a xs ∧ R (Ite X.K a) H1) ∨ (SqT X.K H1 a xs ∧ R (IteT X.K a) H1)) := fun q2 => by
      obtain ⟨a, us, xs, chk, rfl, s, L, q3⟩ := asLs_of q2 p2 r1
      exact ⟨a, us, rfl, .inl ⟨s, fin _ H1 _ _ h1 k r1 (it_enum L) q3⟩⟩
    cases d with
    | tup ds =>
      unfold Rp at p2
      obtain ⟨a, us, rfl, s, l⟩ := p2
      exact ⟨a, us, rfl, .inr ⟨s, fin _ H1 _ _ h1 k r1 (it_enumT s l) q2⟩⟩
    | _ => exact ls q2⟩
end
/-! ### list(range(n)), list(range(a, b)) -/
def RgS (i j : Int) : Prop := -(2 ^ 62) ≤ i ∧ i < 2 ^ 62 ∧ -(2 ^ 62) ≤ j ∧ j < 2 ^ 62 ∧ (j - i).toNat ≤ 2 ^ 24
def dLRg1 (t : DTE) : DTA := fun env h Q => t env h fun d h1 => asI d fun n => RgS 0 n ∧ Q (intsD 0 n.toNat) h1
def dLRg2 (t u : DTE) : DTA := fun env h Q => t env h fun d h1 => u env h1 fun e h2 => asI d fun i => asI e fun j => RgS i j ∧ Q (intsD i (j - i).toNat) h2
theorem RpL.intsD {K : PySem.W.Frag} {H : Hp} {lo : Int} {n : Nat} : RpL K H (intsD lo n) ((List.range n).map fun i => V.int (lo + (i : Nat))) := by
  unfold DL.intsD
  induction List.range n with
  | nil => exact RpL.nil
  | cons a l ih => exact RpL.cons (by unfold Rp; rfl) ih
section
variable {X : Cx} {G : Option (Hp × DH)} {a b : Expr} {ta tb : DTE} {p p2 pos pos2 : Pos}
theorem dl_listRg1 (hc : X.calm = true) (hg : Gl X "list") (hm : X.mg "list" = none) (hg2 : Gl X "range") (hm2 : X.mg "range" = none) (ha : DE X G a ta) (na : starEach [a] X.env = (false, eval a X.env) :: starEach [] X.env := by rfl) :
    DLs X G (.Call (.Name "list" p) [.Call (.Name "range" p2) [a] [] pos2] [] pos) (dLRg1 ta) :=
  PE.of (pe_listRg hc hg hm (prg_1 hg2 hm2 ha na)) fun σ H Q ⟨env, h, Q', g, er, hr, q, fin⟩ => ⟨env, h, _, g, er, hr, q, fun v H1 d h1 k1 r1 p1 q1 => by
    obtain ⟨n, rfl, rfl, ok, q2⟩ := asI_of q1 p1
    refine ⟨n, rfl, ok, fun p n0 => fin p _ (intsD 0 n.toNat) _ h1 (k1.trans (Gr.under n0)) (r1.under n0) upd_same ?_ (r1.free n0) (fun u e z => by rw [(k1.fr p u e z).1] at n0; cases n0) q2⟩
    unfold rgV
    rw [Int.sub_zero]
    exact RpL.intsD⟩
theorem dl_listRg2 (hc : X.calm = true) (hg : Gl X "list") (hm : X.mg "list" = none) (hg2 : Gl X "range") (hm2 : X.mg "range" = none) (ha : DE X G a ta) (hb : DE X G b tb) (na : starEach [a, b] X.env = (false, eval a X.env) :: starEach [b] X.env := by rfl)
    (nb : starEach [b] X.env = (false, eval b X.env) :: starEach [] X.env := by rfl) (hp : (backTo pos2 (starEach [b] X.env)).any (·.1) = false := by rfl) :
    DLs X G (.Call (.Name "list" p) [.Call (.Name "range" p2) [a, b] [] pos2] [] pos) (dLRg2 ta tb) :=
  PE.of (pe_listRg hc hg hm (prg_2 hg2 hm2 ha hb na nb hp)) fun σ H Q ⟨env, h, Q', g, er, hr, q, fin⟩ => ⟨env, h, _, g, er, hr, q, fun v H1 d h1 k1 r1 p1 q1 => ⟨env, h1, _, g.on k1, er.mono k1, r1, q1, fun y H2 e h2 k2 r2 p2 q2 => by
    obtain ⟨i, rfl, rfl, q3⟩ := asI_of q2 (Rp.mono k2 _ _ p1)
    obtain ⟨j, rfl, rfl, ok, q4⟩ := asI_of q3 p2
    have k12 := k1.trans k2
    refine ⟨i, j, rfl, rfl, ok, fun p n0 => fin p _ (intsD i (j - i).toNat) _ h2 (k12.trans (Gr.under n0)) (r2.under n0) upd_same ?_ (r2.free n0) (fun u e z => by rw [(k12.fr p u e z).1] at n0; cases n0) q4⟩
    unfold rgV
    exact RpL.intsD⟩⟩
end
end DL
set_option Elab.async false
set_option linter.all false
set_option maxRecDepth 100000
set_option maxHeartbeats 4000000
namespace DL
open PySem PySem.Spec PyProof.Rows L2
/-! ### classes of exceptions -/
def subC (nm cn : Str) : Bool := decide (nm = cn) || (decide (cn = "DeedError") || decide (cn = "ValueError"))
structure XCls (K : PySem.W.Frag) (nm : Str) (C : Addr) : Prop where
  ns : PySem.W.nsIn K mainGlobals nm = some (some (.ref C))
  cl : (PySem.W.clsIn K C).isSome = true
  ga : PySem.W.findIn K (.ref C) "__getattribute__" = some (some (.builtin "BaseException.__getattribute__"))
  gt : PySem.W.findIn K (.ref C) "__getattr__" = some none
  sub : PySem.W.subIn K (.ref C) (.type "BaseException") = some true
  ca : PySem.W.findIn K (.ref C) "__class__" = some (some (.builtin "object.__class__"))
  mo : PySem.W.mroIn K C (.type "object") = some true
  hd : PySem.W.hasDictIn K C = true
structure ClsOk (K : PySem.W.Frag) (l : List Str) : Prop where
  gn : PySem.W.specialIn K (.builtin "object.__class__") "__get__" = some (some (.builtin "getset_descriptor.__get__"))
  tk : PySem.W.takesIn K (.builtin "object.__class__") = some true
  c : ∀ nm ∈ l, XCls K nm (He.ga K nm)
  e : ∀ nm ∈ l, ∀ cn ∈ l, PySem.W.exmOne K (.ref (He.ga K nm)) (.ref (He.ga K cn)) = some (subC nm cn)
  k : ∀ nm ∈ l, ∀ cn ∈ l, PySem.W.kitOne K (.ref (He.ga K nm)) (.ref (He.ga K cn)) = some (subC nm cn)
  v : ∀ nm ∈ l, PySem.W.kitOne K (.ref (He.ga K nm)) (.type "ValueError") = some true
  n : ∀ cn ∈ l, PySem.W.kitOne K (.type "NoneType") (.ref (He.ga K cn)) = some false
  nv : PySem.W.kitOne K (.type "NoneType") (.type "ValueError") = some false
  np : ∀ nm ∈ l, PySem.W.findIn K (.ref (He.ga K nm)) "place" = some none
  nn : ∀ nm ∈ l, PySem.W.findIn K (.ref (He.ga K nm)) "number" = some none
def xclsB (K : PySem.W.Frag) (nm : Str) : Bool := He.eqO (PySem.W.nsIn K mainGlobals nm) (some (some (.ref (He.ga K nm)))) && ((PySem.W.clsIn K (He.ga K nm)).isSome && (He.eqO (PySem.W.findIn K (.ref (He.ga K nm)) "__getattribute__") (some (some (.builtin "BaseException.__getattribute__"))) &&
  (He.eqO (PySem.W.findIn K (.ref (He.ga K nm)) "__getattr__") (some none) && (decide (PySem.W.subIn K (.ref (He.ga K nm)) (.type "BaseException") = some true) && (He.eqO (PySem.W.findIn K (.ref (He.ga K nm)) "__class__") (some (some (.builtin "object.__class__"))) &&
  (decide (PySem.W.mroIn K (He.ga K nm) (.type "object") = some true) && PySem.W.hasDictIn K (He.ga K nm)))))))
theorem xclsB_ok {K : PySem.W.Frag} {nm : Str} (h : xclsB K nm = true) : XCls K nm (He.ga K nm) := by
  unfold xclsB at h
  simp only [Bool.and_eq_true] at h
  obtain ⟨a, b, c, d, e, f, g, i⟩ := h
  exact ⟨He.eqO_ok a, b, He.eqO_ok c, He.eqO_ok d, of_decide_eq_true e, He.eqO_ok f, of_decide_eq_true g, i⟩
def clsB (K : PySem.W.Frag) (l : List Str) : Bool := He.eqO (PySem.W.specialIn K (.builtin "object.__class__") "__get__") (some (some (.builtin "getset_descriptor.__get__"))) && (decide (PySem.W.takesIn K (.builtin "object.__class__") = some true) &&
  ((l.all fun nm => xclsB K nm && (He.eqO (PySem.W.findIn K (.ref (He.ga K nm)) "place") (some none) && He.eqO (PySem.W.findIn K (.ref (He.ga K nm)) "number") (some none))) && ((l.all fun nm => l.all fun cn => decide (PySem.W.exmOne K (.ref (He.ga K nm)) (.ref (He.ga K cn)) = some (subC nm cn)) && decide (PySem.W.kitOne K (.ref (He.ga K nm)) (.ref (He.ga K cn)) = some (subC nm cn))) &&
  ((l.all fun nm => decide (PySem.W.kitOne K (.ref (He.ga K nm)) (.type "ValueError") = some true) && decide (PySem.W.kitOne K (.type "NoneType") (.ref (He.ga K nm)) = some false)) && decide (PySem.W.kitOne K (.type "NoneType") (.type "ValueError") = some false)))))
theorem clsB_ok {K : PySem.W.Frag} {l : List Str} (h : clsB K l = true) : ClsOk K l := by
  unfold clsB at h
  simp only [Bool.and_eq_true, List.all_eq_true, decide_eq_true_eq] at h
  obtain ⟨a, b, c, d, e, f⟩ := h
  exact ⟨He.eqO_ok a, b, fun nm hn => xclsB_ok (c nm hn).1, fun nm hn cn hc => (d nm hn cn hc).1, fun nm hn cn hc => (d nm hn cn hc).2, fun nm hn => (e nm hn).1, fun nm hn => (e nm hn).2, f, fun nm hn => He.eqO_ok (c nm hn).2.1, fun nm hn => He.eqO_ok (c nm hn).2.2⟩
theorem ga_of {K : PySem.W.Frag} {nm : Str} {C : Addr} (h : PySem.W.nsIn K mainGlobals nm = some (some (.ref C))) : He.ga K nm = C := by
  unfold He.ga
  rw [h]
/-! ### isinstance(e, C) -/
theorem call_isX {X : Cx} {l : List Str} (T : ClsOk X.K l) : CallR X (.builtin "isinstance") (fun xs H Q => ∃ (a : Addr) (nm : Str) (fs : List (Str × Int)) (c : V) (u : Value) (b : Bool), xs = [.ref a, c] ∧ XcAt X.K H nm fs a ∧ nm ∈ l ∧ ClsV c u ∧ PySem.W.kitOne X.K (.ref (He.ga X.K nm)) u = some b ∧ Q (.bl b) H) := by
  intro pins s σ H xs us Q I r h
  obtain ⟨a, nm, fs, c, u, b, rfl, ⟨oe, vs, C, e1, e2, e3, e4, e5⟩, hm, k, e, q⟩ := h
  obtain ⟨u1, u2, rfl, r1, r2⟩ := vals2 r
  have e6 := k.eq r2
  subst e6
  cases (show u1 = Value.ref a from r1)
  have eC := ga_of e2
  rw [eC] at e
  have Z := T.c nm hm
  rw [eC] at Z
  obtain ⟨h1, _⟩ := (show ObjOk X.prog X.w H s.heap a (.frz oe (.own a)) from I.hok a _ e1)
  have J : ∃ od, PySem.W.InstAt s.heap a oe C od := by
    rcases e5 with ⟨f1, _⟩ | ⟨dx, f1, f2⟩
    · exact ⟨none, h1, e3, by unfold PySem.W.notCls; rw [e4] <;> rfl, by rw [f1]; trivial⟩
    · obtain ⟨mA, ⟨o, es, ep, ho, _⟩, _⟩ := (show ObjOk X.prog X.w H s.heap dx (.xd _) from I.hok dx _ f2)
      exact ⟨some o, h1, e3, by unfold PySem.W.notCls; rw [e4] <;> rfl, by rw [f1]; exact ho⟩
  obtain ⟨od, J⟩ := J
  exact PySem.W.kia_one (PySem.W.kitx_exc Z.cl Z.ga Z.gt Z.sub Z.ca T.gn T.tk Z.mo) I.kIn J e (fun z => nomatch z) fun tk => ⟨.bl b, H, I.tok tk, rfl, q⟩
/-- isinstance(x, C), C a class of exceptions (or ValueError), x an exception or None -/
def isiX (l : List Str) (cn : Str) : D → DH → DK → Prop
  | .exc nm _, h, Q => l.contains nm = true ∧ Q (.bl (subC nm cn)) h
  | .non, h, Q => Q (.bl false) h
  | _, _, _ => False
def dIsX (l : List Str) (cn : Str) (t : DTE) : DTE := fun env h Q => t env h fun d h1 => isiX l cn d h1 Q
section
variable {X : Cx} {G : Option (Hp × DH)} {a : Expr} {ta : DTE} {p p2 pos : Pos} {l : List Str} {y : Str}
theorem isX_of {H H1 : Hp} {h h1 : DH} {Q : VK} {Q' : DK} {d : D} {v c : V} {u : Value} (T : ClsOk X.K l) (hc : ClsV c u) (hk : ∀ nm ∈ l, PySem.W.kitOne X.K (.ref (He.ga X.K nm)) u = some (subC nm y)) (hn : PySem.W.kitOne X.K (.type "NoneType") u = some false)
    (k : Gr X.K H h H1 h1) (r : HR X.K X.mg H1 h1) (pr : Rp X.K H1 d v) (q : isiX l y d h1 Q') (fin : ∀ v H' d h', Gr X.K H h H' h' → HR X.K X.mg H' h' → Rp X.K H' d v → Q' d h' → Q v H') :
    (∃ (a : Addr) (nm : Str) (fs : List (Str × Int)) (c' : V) (u : Value) (b : Bool), [v, c] = [.ref a, c'] ∧ XcAt X.K H1 nm fs a ∧ nm ∈ l ∧ ClsV c' u ∧ PySem.W.kitOne X.K (.ref (He.ga X.K nm)) u = some b ∧ Q (.bl b) H1) ∨ rIsi X.K [v, c] H1 Q := by
  cases d with
  | exc nm fs =>
    unfold Rp at pr
    obtain ⟨a, rfl, z⟩ := pr
    have hm : nm ∈ l := by simpa using q.1
    exact .inl ⟨a, nm, fs, c, u, _, rfl, z, hm, hc, hk nm hm, fin _ H1 (.bl (subC nm y)) h1 k r (by unfold Rp; rfl) q.2⟩
  | non =>
    unfold Rp at pr
    subst pr
    exact .inr ⟨.non, c, .type "NoneType", u, false, rfl, hc, .base .non, hn, fin _ H1 (.bl false) h1 k r (by unfold Rp; rfl) q⟩
  | _ => exact q.elim
theorem call_or {f : Value} {r r' : List V → Hp → VK → Prop} (a : CallR X f r) (b : CallR X f r') : CallR X f (fun xs H Q => r xs H Q ∨ r' xs H Q) := fun pins s σ H xs us Q I rv h => by
  rcases h with h | h
  · exact a pins s σ H xs us Q I rv h
  · exact b pins s σ H xs us Q I rv h
theorem de_isX (T : ClsOk X.K l) (hm' : y ∈ l) (hg : Gl X "isinstance") (hm : X.mg "isinstance" = none) (hgT : Gl X y) (hmT : X.mg y = some (.ref (He.ga X.K y))) (ha : DE X G a ta)
    (hdb : (y == ("__debug__" : Str)) = false := by decide)
    (he : starEach [a, .Name y p2] X.env = (false, eval a X.env) :: starEach [.Name y p2] X.env := by rfl) (he2 : starEach [.Name y p2] X.env = (false, eval (.Name y p2) X.env) :: starEach [] X.env := by rfl) (hpl : (backTo pos (starEach [.Name y p2] X.env)).any (·.1) = false := by rfl) :
    DE X G (.Call (.Name "isinstance" p) [a, .Name y p2] [] pos) (dIsX l y ta) :=
  PE.of (pe_callB (call_or (call_isX T) call_isi) hg hm (by decide +kernel) (pa_cons ha (pa_cons (pe_glob (v := .ref (He.ga X.K y)) hgT hmT rfl hdb) pa_nil he2) he) (by decide) (by decide) he hpl) fun σ H Q ⟨env, h, Q', g, er, hr, q, fin⟩ => ⟨env, h, _, g, er, hr, q, fun v H1 d h1 k1 r1 p1 q1 =>
    isX_of T (.own _) (fun nm hn => T.k nm hn y hm') (T.n y hm') k1 r1 p1 q1 fin⟩
theorem de_isV (T : ClsOk X.K l) (hg : Gl X "isinstance") (hm : X.mg "isinstance" = none) (hgT : Gl X "ValueError") (hmT : X.mg "ValueError" = none) (ha : DE X G a ta)
    (he : starEach [a, .Name "ValueError" p2] X.env = (false, eval a X.env) :: starEach [.Name "ValueError" p2] X.env := by rfl) (he2 : starEach [.Name "ValueError" p2] X.env = (false, eval (.Name "ValueError" p2) X.env) :: starEach [] X.env := by rfl) (hpl : (backTo pos (starEach [.Name "ValueError" p2] X.env)).any (·.1) = false := by rfl) :
    DE X G (.Call (.Name "isinstance" p) [a, .Name "ValueError" p2] [] pos) (dIsX l "ValueError" ta) :=
  PE.of (pe_callB (call_or (call_isX T) call_isi) hg hm (by decide +kernel) (pa_cons ha (pa_cons (pe_bltn (v := .ty "ValueError") hgT hmT PyProof.Rows.Boot.«ValueError» rfl (by decide) (by decide)) pa_nil he2) he) (by decide) (by decide) he hpl) fun σ H Q ⟨env, h, Q', g, er, hr, q, fin⟩ => ⟨env, h, _, g, er, hr, q, fun v H1 d h1 k1 r1 p1 q1 =>
    isX_of T (.ty _) (fun nm hn => by rw [T.v nm hn]; congr 1; unfold subC; simp) T.nv k1 r1 p1 q1 fin⟩
end
/-! ### e.f -/
def fldX (l : List Str) (f : Str) : D → DH → DK → Prop
  | .exc nm fs, h, Q => l.contains nm = true ∧ optAt (fs.lookup f) fun i => Q (.int i) h
  | _, _, _ => False
def dFldX (l : List Str) (f : Str) (t : DTE) : DTE := fun env h Q => t env h fun d h1 => fldX l f d h1 Q
theorem lookI {f : Str} {i : Int} : ∀ {fs : List (Str × Int)}, fs.lookup f = some i → (fs.map fun p => (p.1, V.int p.2)).lookup f = some (.int i)
  | [], h => by cases h
  | (g, j) :: r, h => by
    rw [List.lookup_cons] at h
    rw [List.map_cons, List.lookup_cons]
    cases e : f == g with
    | true => rw [e] at h; cases h; rfl
    | false => rw [e] at h; exact lookI h
section
variable {X : Cx} {G : Option (Hp × DH)} {e : Expr} {te : DTE} {pos : Pos} {l : List Str} {f : Str}
theorem de_fldX (T : ClsOk X.K l) (hno : ∀ nm ∈ l, PySem.W.findIn X.K (.ref (He.ga X.K nm)) f = some none) (he : DE X G e te) (hb : attributeBase e f X.env (eval e X.env) = eval e X.env := by rfl) : DE X G (.Attribute e f pos) (dFldX l f te) := by
  refine PE.of (t := fun σ H Q => lE X.K X.mg G te σ H fun x H1 => ∃ (a : Addr) (nm : Str) (fs : List (Str × Int)) (i : Int), x = .ref a ∧ XcAt X.K H1 nm fs a ∧ nm ∈ l ∧ fs.lookup f = some i ∧ Q (.int i) H1) ⟨fun pins s σ H Q I h => ?_⟩ fun σ H Q ⟨env, h, Q', g, er, hr, q, fin⟩ => ⟨env, h, _, g, er, hr, q, fun v H1 d h1 k1 r1 p1 q1 => ?_⟩
  · refine attr_of hb (thn (he.run pins s σ H _ I h) fun u s1 hh => ?_)
    obtain ⟨x, H1, I1, rx, a, nm, fs, i, rfl, ⟨oe, vs, C, e1, e2, e3, e4, e5⟩, hm, hl, q⟩ := hh
    obtain rfl : u = Value.ref a := rx
    have eC := ga_of e2
    have Z := T.c nm hm
    have hN := hno nm hm
    rw [eC] at Z hN
    obtain ⟨h1, _⟩ := (show ObjOk X.prog X.w H1 s1.heap a (.frz oe (.own a)) from I1.hok a _ e1)
    rcases e5 with ⟨f1, f2⟩ | ⟨dx, f1, f2⟩
    · rw [f2] at hl; cases hl
    · obtain ⟨mA, hns, hr⟩ := (show ObjOk X.prog X.w H1 s1.heap dx (.xd _) from I1.hok dx _ f2)
      obtain ⟨od, ho, hl2⟩ := lookIn_ns hns
      obtain ⟨u, hu, ru⟩ := RelO.some_of (v := .int i) (o := mA f) (by rw [← lookI hl]; exact hr f)
      have J : PySem.W.InstAt s1.heap a oe C (some od) := ⟨h1, e3, by unfold PySem.W.notCls; rw [e4] <;> rfl, by rw [f1]; exact ho⟩
      exact HandSPX.exc_get I1.kIn J Z.ga Z.gt Z.sub (PySem.W.findObj_own Z.hd hN rfl (by rw [hl2, hu])) (handed_of ru) ⟨.int i, H1, I1.tok _, ru, q⟩
  · cases d with
    | exc nm fs =>
      unfold Rp at p1
      obtain ⟨a, rfl, z⟩ := p1
      obtain ⟨c1, q1⟩ := q1
      obtain ⟨i, e1, q2⟩ := optAt_of q1
      exact ⟨a, nm, fs, i, rfl, z, by simpa using c1, e1, fin _ H1 (.int i) h1 k1 r1 (by unfold Rp; rfl) q2⟩
    | _ => exact q1.elim
end
end DL
set_option Elab.async false
set_option linter.all false
set_option maxRecDepth 100000
set_option maxHeartbeats 4000000
namespace DL
open PySem PySem.Spec PyProof.Rows L2
/-! ### a caught exception is kept -/
theorem keepExc {X : Cx} {pins : List (Addr × Obj)} {σ : L2.St} {H : Hp} {s : Shared} {a : Addr} {oe : Obj} {vs : Array Value} (I : Inv X pins σ H s) (ha : s.heap.get? a = some oe) (hd : oe.data = .fields vs) (na : H a = none) (nL : a ≠ X.env.locals)
    (n0 : ∀ o, X.s_0.heap.get? a = some o → a ∉ X.ex → False) (np : ∀ p ∈ X.pn ++ pins, p.1 ≠ a) : Inv X pins σ (upd H a (.frz oe (.own a))) s := by
  refine ⟨I.ok, I.os, I.bare, ⟨I.base.keep, I.base.slot, fun b o e n hx => ?_, I.base.there, fun b xs e => ?_, fun b o u e => ?_, fun b ps e => ?_⟩, I.loc, I.cell, ?_, fun x c e => ?_, fun p hp => ?_, fun b ob e => ?_, I.len⟩
  · have ne : b ≠ a := fun z => by subst z; exact n0 o e hx
    rw [upd_ne ne]; exact I.base.free b o e n hx
  · have z := I.base.tups b xs e
    rw [upd_ne (ne_of_none z na)]; exact z
  · have z := I.base.frzs b o u e
    rw [upd_ne (ne_of_none z na)]; exact z
  · obtain ⟨m, z⟩ := I.base.tbls b ps e
    exact ⟨m, by rw [upd_ne (ne_of_none z na)]; exact z⟩
  · rw [upd_ne (Ne.symm nL)]; exact I.free
  · have ne : c ≠ a := fun z => by
      subst z
      obtain ⟨v, o, ho, hdc⟩ := I.cell x c e
      rw [ha] at ho; cases ho; rw [hd] at hdc; cases hdc
    rw [upd_ne ne]; exact I.freeC x c e
  · obtain ⟨e, n, ne, nf, d⟩ := I.pin p hp
    exact ⟨e, by rw [upd_ne (np p hp)]; exact n, ne, nf, d⟩
  · by_cases hb : b = a
    · subst hb
      rw [upd_same] at e; cases e
      exact ⟨ha, oe, ha⟩
    · rw [upd_ne hb] at e
      exact (I.hok b ob e).stay (fun c u _ q => q) (fun c q => by rw [upd_ne (ne_of_none q na)]; exact q) fun c xs q => by rw [upd_ne (ne_of_none q na)]; exact q
/-- what the clause 'except x as n' wishes of an exception of the body: slot i is n's; the exception is kept -/
def wK (K : PySem.W.Frag) (c : Value) (i : Nat) (ts : TS) (Wout : WX) (D : Ends) : WX := fun cls d σ H =>
  ∃ b, PySem.W.exmOne K cls c = some b ∧ (b = true → ∀ a oe vs, H a = none → Zc cls d oe → oe.data = .fields vs → ts { nx := fun σ' H' => D.nx (σ'.set i none) H', rt := D.rt, bk := fun σ' H' => D.bk (σ'.set i none) H', ct := fun σ' H' => D.ct (σ'.set i none) H' } (σ.set i (some (.ref a))) (upd H a (.frz oe (.own a)))) ∧
    (b = false → Wout cls d σ H)
theorem toSuite {X : Cx} {pins : List (Addr × Obj)} {σ : L2.St} {H : Hp} {s : Shared} (I : Inv X pins σ H s) (a : Addr) : Inv (X.suite a (X.pn ++ pins)) [] σ H s :=
  ⟨I.ok.suite _ _, I.os, I.bare, I.base, I.loc, I.cell, I.free, I.freeC, fun p hp => I.pin p (by rw [List.append_nil] at hp; exact hp), I.hok, I.len⟩
theorem ofSuite {X : Cx} {a : Addr} {pins pn' : List (Addr × Obj)} {σ : L2.St} {H : Hp} {s : Shared} (I : Inv (X.suite a (X.pn ++ pins)) pn' σ H s) (ok : X.Ok) : Inv X pins σ H s :=
  ⟨ok, I.os, I.bare, I.base, I.loc, I.cell, I.free, I.freeC, fun p hp => I.pin p (List.mem_append_left _ hp), I.hok, I.len⟩
section
variable {X : Cx} {x n : Str} {c : Value} {i : Nat} {body suite : List Stmt} {b₀ : Stmt} {np pos pos' : Pos} {tb : WX → TS} {ts : TS} {Wout : WX}
theorem ps_tryK (hs : X.stack = X.env :: X.outer) (hf : X.env.frame = some X.env.locals) (hN : X.N.Nodup) (hi : X.N[i]? = some n) (hln : X.env.kindOf n = some .local) (hc : Names X x c) (tk : Takes X Wout)
    (hb : ∀ (W : WX) (pn : List (Addr × Obj)) (xe : Value → Shared → Prop), Takes (X.tr pn xe) W → PassesOwn (model X.prog X.w) X.A X.env xe → PSs (X.tr pn xe) body (tb W))
    (hsu : ∀ (a : Addr) (pn : List (Addr × Obj)), PSs (X.suite a pn) (b₀ :: suite) ts) :
    PS X (.Try body [.ExceptHandler (some (.Name x np)) (some n) (b₀ :: suite) pos'] [] [] pos) (fun D σ H => tb (wK X.K c i ts Wout D) D σ H) := by
  refine ⟨fun pins s σ H D I h => ?_⟩
  have ok := I.ok
  have hfr : X.A.frames = some (X.env :: X.outer) := by rw [ok.frames, hs]
  have hloc : L2.Loc X.env.scope n := .inl hln
  refine wpAny_Try_except ?_
  refine wpAny_mono ((hb (wK X.K c i ts Wout D) (X.pn ++ pins) (fun e s₁ => wpAny (model X.prog X.w) X.A (noteFrame e X.env) (fun _ s₂ => wpAny (model X.prog X.w) X.A (setFlight e none) (fun _ s₃ =>
    wpAny (model X.prog X.w) X.A (handleBy e X.env [.ExceptHandler (some (.Name x np)) (some n) (b₀ :: suite) pos']) (SP X pins D) X.xe s₃) X.xe s₂) X.xe s₁) (fun u s' xx => ?_) PassesOwn.looking).run [] s σ H D (I.toTry _) h) (fun f s1 hsp => ?_) (fun e s1 he => he)
  · -- the catch
    obtain ⟨a, B, sI, pins', σ', H', cls, d, rfl, J', nb, up, sky, na, os, ag, b, hb1, hyes, hno⟩ := xx
    have J : Inv X pins σ' H' sI := J'.ofTry ok
    have sky' : Sky B (X.env :: X.outer) a (Zc cls d) X.env.locals s'.heap := by rw [← hs]; exact sky
    show wpAny (model X.prog X.w) X.A (noteFrame (.ref a) X.env) _ _ _
    refine Sky.land Zc.steady hfr hf sky' fun h3 fl3 up3 => ?_
    have J3 : Inv X pins σ' H' { s' with heap := h3 } := J.landed nb fl3.1 (up.trans up3) os ag
    obtain ⟨oe3, vs3, he3, hz3, hd3⟩ := fl3.there
    have notFr : ∀ {h : Heap} {o : Obj} {vs : Array Value}, h.FunFrames B (X.env :: X.outer) → h.get? a = some o → o.data = .fields vs → a ∉ frs (X.env :: X.outer) := fun {h o vs} ff e dd hm => by
      obtain ⟨_, o', e', hnf⟩ := ff.mem hm
      rw [e] at e'; cases e'
      exact hnf _ dd
    have nfr := notFr fl3.2.2.1 he3 hd3
    have nL : a ≠ X.env.locals := fun z => nfr (List.mem_filterMap.mpr ⟨X.env, List.mem_cons_self, by rw [hf, z]⟩)
    have nF : a ∉ X.fs := fun hm => by
      obtain ⟨e, he, q⟩ := List.mem_filterMap.mp hm
      exact nfr (List.mem_filterMap.mpr ⟨e, List.mem_cons_of_mem _ he, q⟩)
    have nsI : sI.heap.get? a = none := by
      cases q : sI.heap.get? a with
      | none => rfl
      | some o =>
        have z := nb a o q (by rw [hs]; exact nfr)
        rw [fl3.2.1] at z; cases z
    have n0 : ∀ o, X.s_0.heap.get? a = some o → a ∉ X.ex → False := fun o e hx => by
      obtain ⟨o', z⟩ := J.base.there a o e hx
      rw [nsI] at z; cases z
    have npn : ∀ p ∈ X.pn ++ pins, p.1 ≠ a := fun p hp z => by
      obtain ⟨e, _⟩ := J.pin p hp
      rw [z, nsI] at e; cases e
    have S3 := J3.suite he3 hd3 na nL nF
    refine wpAny_handleBy_cons (codeAny_handlers_test ?_) (by intro q; cases q)
    have LT : PySem.W.Looks (model X.prog X.w) h3 (typeOf (.ref a)) cls := fun A Q E s k q => wpAny_typeOf_ref (k _ _ he3) (by rw [hz3.1]; exact q)
    have LM := PySem.W.exm_one (M := model X.prog X.w) (J3.kIn) LT hb1
    have test : ∀ {Q : Value → Shared → Prop} {E : Value → Shared → Prop}, Q c { s' with heap := h3 } → wpAny (model X.prog X.w) (X.A.mark (some (.ref a))) (eval (.Name x np) X.env) Q E { s' with heap := h3 } := fun {Q E} q => by
      obtain ⟨hg, hdbg, hm | ⟨hm, hv, hnn⟩⟩ := hc
      · exact ld_glob (X := X.suite a ((a, oe3) :: (X.pn ++ pins))) S3 hg hm q hdbg
      · exact ld_blt (X := X.suite a ((a, oe3) :: (X.pn ++ pins))) S3 hg hm hv q hnn hdbg
    refine test (LM.here ?_)
    cases b with
    | true =>
      refine codeAny_handlers_suite_as ?_
      refine HandSPX.lands_againZ fl3 fun h4 fl4 up4 => ?_
      have J4 : Inv X pins σ' H' { s' with heap := h4 } := J.landed nb fl4.1 ((up.trans up3).trans up4) os ag
      obtain ⟨oe4, vs4, he4, hz4, hd4⟩ := fl4.there
      have S4 := toSuite (keepExc J4 he4 hd4 na nL n0 npn) a
      refine store_ok (X := X.suite a (X.pn ++ pins)) (v := .ref a) S4 hN hi hloc rfl (fun s5 S5 => ?_) (.inr hln)
      refine wpAny_mono ((hsu a (X.pn ++ pins)).run [] s5 _ _ _ S5 (hyes rfl a oe4 vs4 na hz4 hd4)) (fun f s6 hsp => ?_) (fun _ _ z => False.elim z)
      have end_ : ∀ {σ6 : L2.St} {H6 : Hp} {Q : Shared → Prop}, Inv (X.suite a (X.pn ++ pins)) [] σ6 H6 s6 → (∀ s7, Inv X pins (σ6.set i none) H6 s7 → Q s7) →
          wpAny (model X.prog X.w) X.A (do bindName X.env n .none; unbindBehindTheSuite X.env n pos') (fun _ s7 => Q s7) X.xe s6 := fun {σ6 H6 Q} S6 hq => gone_ok (ofSuite S6 ok) hN hi hln hq
      cases f with
      | next =>
        obtain ⟨σ6, H6, S6, q6⟩ := hsp
        exact end_ S6 fun s7 J7 => ⟨_, _, J7, q6⟩
      | brk =>
        obtain ⟨σ6, H6, S6, q6⟩ := hsp
        exact end_ S6 fun s7 J7 => ⟨_, _, J7, q6⟩
      | cont =>
        obtain ⟨σ6, H6, S6, q6⟩ := hsp
        exact end_ S6 fun s7 J7 => ⟨_, _, J7, q6⟩
      | ret u =>
        obtain ⟨v6, σ6, H6, S6, r6, q6⟩ := hsp
        exact end_ S6 fun s7 J7 => ⟨_, _, _, J7, r6, q6⟩
    | false =>
      show wpAny _ X.A (handleBy (.ref a) X.env []) _ _ _
      refine wpAny_handleBy_nil ?_
      obtain ⟨k1, k2, k3, oe, vs, T, oT, ts', he, hz, hd, h1, hr⟩ := id fl3
      unfold PySem.passOn
      refine wpAny_bind (wpAny_field he hd h1 ?_)
      rw [if_neg (show ¬ ((Value.ref T == Value.none) = true) from by simp)]
      have fin : wpAny (model X.prog X.w) X.A (setFlight (.ref a) X.env.frame) (fun _ s4 => wpAny (model X.prog X.w) X.A (throw (.ref a) : Sem Flow) (SP X pins D) X.xe s4) X.xe { s' with heap := h3 } := by
        rw [hf]
        refine HandSPX.setFlight_upZ fl3 fun h4 hh4 up4 => wpAny_throw (tk _ _ ?_)
        exact ⟨a, B, sI, pins, σ', H', cls, d, rfl, J, nb, (up.trans up3).trans up4, .inr (.inr (by rw [hs]; exact hh4)), na, os, ag, hno rfl⟩
      first
        | exact wpAny_bind (wpAny_pure (wpAny_bind fin))
        | exact wpAny_bind fin
  · cases f with
    | next =>
      obtain ⟨σ', H', J', q⟩ := hsp
      exact wpAny_execs_nil ⟨σ', H', J'.ofTry ok, q⟩
    | brk =>
      obtain ⟨σ', H', J', q⟩ := hsp
      exact ⟨σ', H', J'.ofTry ok, q⟩
    | cont =>
      obtain ⟨σ', H', J', q⟩ := hsp
      exact ⟨σ', H', J'.ofTry ok, q⟩
    | ret u =>
      obtain ⟨v, σ', H', J', r, q⟩ := hsp
      exact ⟨v, σ', H', J'.ofTry ok, r, q⟩
end
/-! ### raise -/
section
variable {X : Cx} {G : Option (Hp × DH)} {E : DXE} {pos : Pos}
theorem rp_fields {H : Hp} {dx : Option Addr} {fs : List (Str × Int)} : XF H dx fs → XF H dx fs := id
/-- raise C('..'): C without own __init__ -/
def dRaiseT (nm : Str) (E : DXE) : DTS := fun _ env h => E env nm [] h
theorem ds_raiseT {nm m : Str} {j : Nat} {p p2 p3 : Pos} (hc : X.calm = true) (tk : Takes X (lW X.K X.mg G E)) (ns : PySem.W.nsIn X.K mainGlobals nm = some (some (.ref (He.ga X.K nm)))) (q : PySem.W.excIn X.K (He.ga X.K nm) He.veBase "ValueError.__new__" = true) (gC : X.mg nm = some (.ref (He.ga X.K nm)))
    (kC : PySem.W.keepIn X.K (.ref (He.ga X.K nm)) = true) (r : Raises X (.ref (He.ga X.K nm))) (hg : Gl X nm) (hdb : (nm == ("__debug__" : Str)) = false) : DS X G (.Raise (some (.Call (.Name nm p) [.Constant (.str m) j p2] [] p3)) none pos) (dRaiseT nm E) :=
  PS.of (ps_raise hc tk (pmk_own PySem.F.excBase_ValueError q gC kC r hg hdb)) fun D σ H ⟨env, h, E', g, er, hr, z, _⟩ => ⟨env, er, nm, _, [], h, rfl, ns, g, hr, .inl ⟨rfl, rfl⟩, z⟩
end
end DL
set_option Elab.async false
set_option linter.all false
set_option maxRecDepth 100000
set_option maxHeartbeats 4000000
namespace DL
open PySem PySem.Spec PyProof.Rows L2
/-! ### a call of a method, as the model has it -/
theorem few_args {env : Env} {pos : Pos} : ∀ {es : List Expr}, (es.all fun e => match e with | .Starred .. => false | _ => true) = true → (backTo pos (starEach es env)).all (fun x => !x.1) = true
  | [], _ => rfl
  | e :: es, h => by
    simp only [List.all_cons, Bool.and_eq_true] at h
    have ih := few_args (env := env) (pos := pos) h.2
    cases e <;> first | exact ih | (simp at h; done)
theorem mcall_eq {o : Expr} {name : Str} {apos pos : Pos} {args : List Expr} {env : Env} (hb : attributeBase o name env (eval o env) = eval o env) (hn : (args.all fun e => match e with | .Starred .. => false | _ => true) = true) (hl : args.length < 20) (hline : (apos.endLine == pos.line) = true) :
    eval (.Call (.Attribute o name apos) args [] pos) env = (do
      let ov ← eval o env
      standAt apos.atName
      let (f, first) ← holding [ov] (getMethod ov name (do return (← importBound o env).getD true))
      callWith pos f first (backTo pos (starEach args env)) (backToKw pos (keywordEach [] env))) := by
  rw [arm_eval_Call, hb]
  have few : methodCallForm (args.length + ([] : List Keyword).length) (backTo pos (starEach args env)) (backToKw pos (keywordEach [] env)) = true := by
    unfold methodCallForm
    rw [few_args hn]
    show (true && true && decide (args.length + 0 + 0 < 30)) = true
    rw [decide_eq_true (by omega)]; rfl
  unfold methodCall calleeOf methodCallPos
  simp only [few, hline, if_true, Bool.not_true, Bool.false_or]
  rfl
/-! ### exceptions with an own __init__: B.__init__(self, '..'); self.f = x -/
/-- what the base class B says -/
structure BasC (K : PySem.W.Frag) (B : Addr) : Prop where
  sp : PySem.W.specialIn K (.ref B) "__getattribute__" = some (some (.builtin "type.__getattribute__"))
  ty : PySem.W.typeIn K (.ref B) = some (.type "type")
  rd : PySem.W.readsIn K B (.type "type") = true
  vi : PySem.W.findCls K (.ref B) (.type "type") "__init__" = some (.val (.builtin "ValueError.__init__"))
theorem pe_binit {X : Cx} {x : Str} {B : Addr} {e : Expr} {es : List Expr} {ta : TA} {p1 p2 pos : Pos} {pl : Sem Bool} (T : BasC X.K B) (hg : Gl X x) (hm : X.mg x = some (.ref B)) (hdb : (x == ("__debug__" : Str)) = false) (ha : PA X (e :: es) ta)
    (hc : eval (.Call (.Attribute (.Name x p1) "__init__" p2) (e :: es) [] pos) X.env = (do
      let ov ← eval (.Name x p1) X.env
      standAt p2.atName
      let (f, first) ← holding [ov] (getMethod ov "__init__" pl)
      callWith pos f first (backTo pos (starEach (e :: es) X.env)) (backToKw pos (keywordEach [] X.env))) := by rfl)
    (he : starEach (e :: es) X.env = (false, eval e X.env) :: starEach es X.env := by rfl) (hpl : (backTo pos (starEach es X.env)).any (·.1) = false := by rfl) :
    PE X (.Call (.Attribute (.Name x p1) "__init__" p2) (e :: es) [] pos) (tVeI X.K ta) := by
  refine ⟨fun pins s σ H Q I h => ?_⟩
  refine PySem.W.methodCall_KW (ld_glob I hg hm ?_ hdb) hc
  obtain ⟨m, fr⟩ := I.fr
  refine PySem.W.method_of_cls fr I.ok.mod.kin T.sp (PySem.W.cls_val fr I.ok.mod.kin T.ty T.rd T.vi (by decide +kernel) ?_)
  show wpAny _ _ (callWith pos (Value.builtin "ValueError.__init__") [] (backTo pos (starEach (e :: es) X.env)) []) _ _ _
  refine PyProof.Rows.callWith_method1 (thn (ha.run pos pins _ σ H _ (I.tok _) h) fun us s1 ⟨vs, H1, I1, r1, a, C, ws, ev, hl, T, ea, q⟩ => ?_) he hpl
  subst ev
  cases r1 with
  | @cons _ u0 _ ur ra rw' =>
    obtain rfl : u0 = Value.ref a := ra
    have hlen : ur.length ≤ sizeLine := by
      rw [← Paired.length rw', sizeLine_eq]
      omega
    exact oinit_ok T I1 ea hlen fun s' J => ⟨.non, H1, J, rfl, q⟩
/-- the promise of such an __init__ -/
def spI (f : Str) (C : Addr) : Sp := fun vs H Q _ => ∃ (a : Addr) (i : Int), vs = [.ref a, .int i] ∧ H a = some (exo a C none) ∧ ∀ dx, H dx = none → dx ≠ a → Q .non (upd (upd H dx (exd dx [(f, .int i)])) a (exo a C (some dx)))
def initShape : List Stmt → Option (Str × Str)
  | [.Expr (.Call (.Attribute (.Name b _) i p2) [.Name s _, .Constant (.str _) _ _] [] p5) _, .Assign [.Attribute (.Name s' _) f _] (.Name p _) _] => if b = "DeedError" ∧ i = "__init__" ∧ s = "self" ∧ s' = "self" ∧ (p2.endLine == p5.line) = true then some (f, p) else none
  | _ => none
theorem init_ok {P : Program} {w : World} {K : PySem.W.Frag} {mg : Str → Option Value} {base : Heap} {x qual f par : Str} {st : Stmt} {fa B C : Addr} {fd : FuncData} (F : Fun K x qual st fa fd) (S : FnScope ["self", par] ["self", par] (defScope st)) (hb : initShape (defBody st) = some (f, par))
    (ls : (defScope st).names.lookup ("self" : Str) = some .local) (lp : (defScope st).names.lookup par = some .local) (lg : (defScope st).names.lookup ("DeedError" : Str) = some .globalImplicit) (hd1 : (par == ("__debug__" : Str)) = false) (hd2 : (par == ("__classdict__" : Str)) = false)
    (T : OexC K C) (U : BasC K B) (hm : mg "DeedError" = some (.ref B)) (hno : PySem.W.findIn K (.ref C) f = some none) : FnOk P w K mg base (L2.CX P w) 1 fa fd ["self", par] (spI f C) := by
  refine F.okX S (fun vs H Q E ⟨a, i, e, _⟩ => by rw [e]; rfl) (fun cdv A outer s H vs Q E hr hq => ?_)
  unfold initShape at hb
  split at hb
  · rename_i b p1 i p2 s p3 m j p4 p5 p6 s' p7 f' p8 par' p9 p10 e
    split at hb
    · rename_i hc
      obtain ⟨rfl, rfl, rfl, rfl, hline⟩ := hc
      cases hb
      obtain ⟨a, n, rfl, ha, q⟩ := hq
      rw [e]
      refine ⟨_, pss_cons (ps_expr (pe_binit U (by unfold Gl Env.kindOf; exact lg) hm (by decide) (pa_cons (pe_var (i := 0) rfl (.inl ls) (by decide) (by decide)) (pa_cons pe_str pa_nil)) (mcall_eq rfl rfl (by simp) hline))) (pss_one (ps_ost (pe_var (i := 0) rfl (.inl ls) (by decide) (by decide)) (pe_var (i := 1) rfl (.inl lp) hd1 hd2))), ?_⟩
      refine ⟨_, rfl, a, C, [.str m], rfl, by simp, T, ha, ?_⟩
      refine ⟨.int n, rfl, .ref a, rfl, a, C, rfl, T, hno, .inl ⟨ha, fun dx nd ne => q dx nd ne⟩⟩
    · cases hb
  · cases hb
/-- a class with such an __init__ -/
structure OwnI (P : Program) (w : World) (K : PySem.W.Frag) (mg : Str → Option Value) (base : Heap) (C : Addr) (f par : Str) (fI : Addr) (fd : FuncData) : Prop where
  o : OexC K C
  i : PySem.W.findIn K (.ref C) "__init__" = some (some (.ref fI))
  t : PySem.W.typeIn K (.ref fI) = some (.type "function")
  b : Binds K fd ["self", par] []
  ok : FnOk P w K mg base (L2.CX P w) 1 fI fd ["self", par] (spI f C)
theorem pass0X {X : Cx} : Passes (L2.CX X.prog X.w) X (fun _ _ _ => False) := fun _ _ _ _ _ _ _ h => by
  obtain ⟨_, _, _, _, _, _, _, _, _, _, _, _, z⟩ := h
  exact z.elim
/-- raise C(e) -/
def dRaiseI (nm f : Str) (t : DTE) (E : DXE) : DTS := fun _ env h => t env h fun d h1 => asI d fun i => E env nm [(f, i)] h1
theorem ds_raiseI {X : Cx} {G : Option (Hp × DH)} {E : DXE} {pos p p3 : Pos} {nm f par : Str} {e : Expr} {te : DTE} {fI : Addr} {fd : FuncData} (hc : X.calm = true) (tk : Takes X (lW X.K X.mg G E)) (ns : PySem.W.nsIn X.K mainGlobals nm = some (some (.ref (He.ga X.K nm))))
    (O : OwnI X.prog X.w X.K X.mg X.base (He.ga X.K nm) f par fI fd) (hr : Room 2 X.A) (gC : X.mg nm = some (.ref (He.ga X.K nm))) (hg : Gl X nm) (hdb : (nm == ("__debug__" : Str)) = false) (he : DE X G e te)
    (hs : starEach [e] X.env = (false, eval e X.env) :: starEach [] X.env := by rfl) : DS X G (.Raise (some (.Call (.Name nm p) [e] [] p3)) none pos) (dRaiseI nm f te E) :=
  PS.of (ps_raise hc tk (pmk_oex (dvs := []) (ds := []) O.o O.i O.t O.ok hr O.b .nil pass0X hg gC (pa_cons he pa_nil hs) hdb hs (by rfl))) fun D σ H ⟨env, h, E', g, er, hr, z, _⟩ => ⟨env, h, _, g, er, hr, z, fun v H1 d h1 k1 r1 p1 q1 => by
    obtain ⟨i, rfl, rfl, q2⟩ := asI_of q1 p1
    refine ⟨by simp, fun a na => ⟨a, i, rfl, upd_same, fun dx nd ne => ⟨rfl, dx, [(f, .int i)], upd_same, ?_, ?_, ?_⟩⟩⟩
    · rw [upd_ne ne, upd_same]
    · rw [upd_ne ne] at nd; exact nd
    · have nd' : H1 dx = none := by rw [upd_ne ne] at nd; exact nd
      have e3 : upd (del (upd (upd (upd H1 a (exo a (He.ga X.K nm) none)) dx (exd dx [(f, V.int i)])) a (exo a (He.ga X.K nm) (some dx))) a) dx (.xd [(f, V.int i)]) = upd H1 dx (.xd [(f, V.int i)]) := by
        funext b
        by_cases hb : b = dx
        · subst hb; rw [upd_same, upd_same]
        · rw [upd_ne hb, upd_ne hb]
          by_cases hba : b = a
          · subst hba; rw [del_same, na]
          · rw [del_ne hba, upd_ne hba, upd_ne hb, upd_ne hba]
      rw [e3]
      exact ⟨env, (er.mono k1).monoT (TK.new nd'), nm, _, [(f, i)], h1, rfl, ns, (g.on k1).on (Gr.under nd'), r1.under nd', .inr ⟨dx, rfl, upd_same⟩, q2⟩⟩
end DL
set_option Elab.async false
set_option linter.all false
set_option maxRecDepth 100000
set_option maxHeartbeats 4000000
namespace DL
open PySem PySem.Spec PyProof.Rows L2
/-! ### zip of two, of three, over lists, tuples and texts in any mix -/
inductive Src where
  | lst (a : Addr) | tup (a : Addr) | str (x : Str)
def Src.v : Src → V
  | .lst a => .ref a
  | .tup a => .ref a
  | .str x => .str x
def Src.ad : Src → List Addr
  | .lst a => [a]
  | .tup a => [a]
  | .str _ => []
def SrcIt (h : Heap) (it : Addr) (i : Nat) : Src → Prop
  | .lst a => h.IsListIter it a i
  | .tup a => h.IsTupleIter it a i
  | .str x => ∃ t, h.IsStrIter it (strIterType x) x t i
def SrcLs (K : PySem.W.Frag) (H : Hp) : Src → List V → Prop
  | .lst a, xs => SqL K H a xs
  | .tup a, xs => SqT K H a xs
  | .str x, xs => xs = x.cps.toList.map fun c => V.str ⟨#[c]⟩
theorem SrcIt.keep {h h' : Heap} {it : Addr} {i : Nat} {s : Src} (x : SrcIt h it i s) (k : ∀ o, h.get? it = some o → h'.get? it = some o) : SrcIt h' it i s := by
  cases s with
  | lst a => obtain ⟨o, e, r⟩ := x; exact ⟨o, k o e, r⟩
  | tup a => obtain ⟨o, e, r⟩ := x; exact ⟨o, k o e, r⟩
  | str z => obtain ⟨t, o, e, r⟩ := x; exact ⟨t, o, k o e, r⟩
theorem SrcIt.obj {h : Heap} {it : Addr} {i : Nat} {s : Src} (x : SrcIt h it i s) : ∃ o, h.get? it = some o ∧ ∀ v, o.data ≠ .cell v := by
  cases s with
  | lst a => obtain ⟨o, e, _, d⟩ := x; exact ⟨o, e, fun v q => by rw [d] at q; cases q⟩
  | tup a => obtain ⟨o, e, _, d⟩ := x; exact ⟨o, e, fun v q => by rw [d] at q; cases q⟩
  | str z => obtain ⟨t, o, e, _, d⟩ := x; exact ⟨o, e, fun v q => by rw [d] at q; cases q⟩
section
variable {X : Cx} {pins : List (Addr × Obj)} {σ : L2.St} {H : Hp} {s : Shared}
theorem vals_at {xs : List V} {its : List Value} (rv : Vals xs its) {j : Nat} {v : Value} (e : its[j]? = some v) : ∃ x, xs[j]? = some x ∧ RelV x v := by
  have hl := rv.length
  have hj : j < its.length := (List.getElem?_eq_some_iff.mp e).1
  obtain ⟨u, hu, ru⟩ := rv.get (List.getElem?_eq_getElem (show j < xs.length by omega))
  rw [e] at hu; cases hu
  exact ⟨_, List.getElem?_eq_getElem (by omega), ru⟩
theorem src_inj (I : Inv X pins σ H s) {sr : Src} {xs ys : List V} (a : SrcLs X.K H sr xs) (b : SrcLs X.K H sr ys) : xs = ys := by
  cases sr with
  | lst l => exact I.list_inj a b
  | tup l => exact I.tuple_inj a b
  | str x => exact (show xs = _ from a).trans (show ys = _ from b).symm
theorem src_draws (I : Inv X pins σ H s) (hh : X.A.handled = none) {sr : Src} {it : Addr} {i : Nat} {xs : List V} (hne : ∀ l ∈ sr.ad, l ≠ it) (q : SrcLs X.K H sr xs) (t : SrcIt s.heap it i sr) :
    ∃ P St, Draws X.prog X.w X.A.in1 it (it :: sr.ad) xs.length P St ∧ St i s.heap ∧ (∀ j v, P j v → ∃ x, xs[j]? = some x ∧ RelV x v) ∧ ∀ j h', St j h' → SrcIt h' it j sr := by
  cases sr with
  | lst l =>
    obtain ⟨its, rv, p, hz⟩ := I.list q
    have D := Draws.list (prog := X.prog) (w := X.w) (A := X.A.in1) hh it l (hne l (by simp [Src.ad])) its.toArray
    rw [List.size_toArray, ← rv.length] at D
    exact ⟨_, _, D, ⟨t, p.isList⟩, fun j v e => vals_at rv (by simpa using e), fun j h' z => z.1⟩
  | tup l =>
    obtain ⟨its, rv, p, hz⟩ := I.tuple q
    have D := Draws.tuple (prog := X.prog) (w := X.w) (A := X.A.in1) hh it l (hne l (by simp [Src.ad])) its.toArray
    rw [List.size_toArray, ← rv.length] at D
    exact ⟨_, _, D, ⟨t, p⟩, fun j v e => vals_at rv (by simpa using e), fun j h' z => z.1⟩
  | str z =>
    obtain ⟨tk, t⟩ := t
    have e : xs = z.cps.toList.map fun c => V.str ⟨#[c]⟩ := q
    subst e
    have D := Draws.text (prog := X.prog) (w := X.w) (A := X.A.in1) hh it z tk
    have el : (z.cps.toList.map fun c => V.str ⟨#[c]⟩).length = z.cps.size := by simp
    rw [el]
    refine ⟨_, _, D, t, fun j v ⟨c, u, e1, e2⟩ => ⟨.str ⟨#[c]⟩, ?_, ⟨u, e2⟩⟩, fun j h' z => ⟨tk, z⟩⟩
    rw [List.getElem?_map, Array.getElem?_toList, e1]; rfl
/-- an iterator is made -/
theorem src_begins (I : Inv X pins σ H s) {sr : Src} {xs : List V} {u : Value} (q : SrcLs X.K H sr xs) (r : RelV sr.v u) : ∃ (o : Obj) (Hh : Heap → Prop), Begins u o Hh ∧ Hh s.heap ∧ ∀ h it, h.get? it = some o → SrcIt h it 0 sr := by
  cases sr with
  | lst l =>
    obtain ⟨its, rv, p, hz⟩ := I.list q
    cases (show u = Value.ref l from r)
    exact ⟨_, _, begins_list l its.toArray, p.isList, fun h it e => ⟨_, e, rfl, rfl⟩⟩
  | tup l =>
    obtain ⟨its, rv, p, hz⟩ := I.tuple q
    cases (show u = Value.ref l from r)
    exact ⟨_, _, begins_tuple l its.toArray, p, fun h it e => ⟨_, e, rfl, rfl⟩⟩
  | str z =>
    obtain ⟨t, rfl⟩ := (show ∃ t, u = Value.str z t from r)
    exact ⟨_, _, begins_text z t, trivial, fun h it e => ⟨t, _, e, rfl, rfl⟩⟩
theorem src_lt (I : Inv X pins σ H s) {sr : Src} {xs : List V} (q : SrcLs X.K H sr xs) : ∀ l ∈ sr.ad, l < s.heap.objs.size := fun l hl => by
  cases sr with
  | lst a =>
    have e : l = a := by simpa [Src.ad] using hl
    subst e
    obtain ⟨its, rv, p, hz⟩ := I.list q
    exact p.lt
  | tup a =>
    have e : l = a := by simpa [Src.ad] using hl
    subst e
    obtain ⟨its, rv, ⟨o, e, _⟩, hz⟩ := I.tuple q
    exact Heap.lt_size e
  | str x => simp [Src.ad] at hl
end
/-- a thing that is walked, as data -/
structure SrcOk (K : PySem.W.Frag) (mg : Str → Option Value) (H1 : Hp) (h0 : DH) (s : Src) (ds : List D) (chk : DH → Prop) : Prop where
  at_ : ∀ H h, Gr K H1 h0 H h → HR K mg H h → chk h → ∃ vs, SrcLs K H s vs ∧ RpL K H ds vs
theorem RpL.signs {K : PySem.W.Frag} {H : Hp} {x : Str} : RpL K H (signs x) (x.cps.toList.map fun c => V.str ⟨#[c]⟩) := by
  unfold DL.signs
  induction x.cps.toList with
  | nil => exact RpL.nil
  | cons a l ih => exact RpL.cons (by unfold Rp; rfl) ih
theorem asIt_src {K : PySem.W.Frag} {mg : Str → Option Value} {H1 : Hp} {h1 : DH} {d : D} {v : V} {k : List D → (DH → Prop) → Prop} (q : asIt d h1 k) (p : Rp K H1 d v) (hr : HR K mg H1 h1) : ∃ (s : Src) (ds : List D) (chk : DH → Prop), v = s.v ∧ SrcOk K mg H1 h1 s ds chk ∧ k ds chk ∧ chk h1 := by
  cases d with
  | tup ds =>
    unfold Rp at p
    obtain ⟨a, vs, rfl, hs, l⟩ := p
    exact ⟨.tup a, ds, _, rfl, ⟨fun H h g _ _ => ⟨vs, g.tk.1 _ _ hs, RpL.mono g _ _ l⟩⟩, q, trivial⟩
  | frz ds =>
    unfold Rp at p
    obtain ⟨a, vs, rfl, hs, l⟩ := p
    exact ⟨.lst a, ds, _, rfl, ⟨fun H h g _ _ => ⟨vs, (g.tk.2 _ _ hs).seq, RpL.mono g _ _ l⟩⟩, q, trivial⟩
  | str x =>
    unfold Rp at p
    subst p
    exact ⟨.str x, signs x, _, rfl, ⟨fun H h g _ _ => ⟨_, rfl, RpL.signs⟩⟩, q, trivial⟩
  | ref a =>
    unfold Rp at p
    obtain ⟨ds, e, q⟩ := lstAt_of (o := h1 a) q
    refine ⟨.lst a, ds, _, p, ⟨fun H h g r c => ?_⟩, q, e⟩
    obtain ⟨vs, f, l⟩ := r.lst c
    exact ⟨vs, SqL.of f, l⟩
  | _ => exact q.elim
def It2 (K : PySem.W.Frag) (s1 s2 : Src) : It :=
  ⟨fun i H => ∃ (l1 l2 : List V) (x1 x2 : V), SrcLs K H s1 l1 ∧ l1[i]? = some x1 ∧ SrcLs K H s2 l2 ∧ l2[i]? = some x2,
    fun i H v H' => ∃ T x1 x2, v = .ref T ∧ H T = none ∧ H' = upd H T (.tup [x1, x2]) ∧ (∀ l, SrcLs K H s1 l → l[i]? = some x1) ∧ (∀ l, SrcLs K H s2 l → l[i]? = some x2),
    fun i H => ∃ l1 l2 : List V, SrcLs K H s1 l1 ∧ i ≤ l1.length ∧ SrcLs K H s2 l2 ∧ i ≤ l2.length ∧ (i = l1.length ∨ i = l2.length)⟩
structure Apart2 (z TI TO i1 i2 : Addr) (s1 s2 : Src) : Prop where
  nd : ([z, TI, TO, i1, i2] : List Addr).Nodup
  a1 : ∀ l ∈ s1.ad, l ∉ ([z, TI, TO, i1, i2] : List Addr)
  a2 : ∀ l ∈ s2.ad, l ∉ ([z, TI, TO, i1, i2] : List Addr)
theorem Apart2.sep {z TI TO i1 i2 : Addr} {s1 s2 : Src} (D : Apart2 z TI TO i1 i2 s1 s2) : ZipSep2 z TI TO i1 i2 (i1 :: s1.ad) (i2 :: s2.ad) := by
  obtain ⟨nd, a1, a2⟩ := D
  simp only [List.nodup_cons, List.mem_cons, List.not_mem_nil, not_or, or_false, not_false_eq_true, List.nodup_nil, and_true] at nd a1 a2
  obtain ⟨⟨n1, n2, n3, n4⟩, ⟨n5, n6, n7⟩, ⟨n8, n9⟩, n10⟩ := nd
  refine { TIz := Ne.symm n1, TOz := Ne.symm n2, TITO := n5, TIi1 := n6, TIi2 := n7, mem1 := List.mem_cons_self .., mem2 := List.mem_cons_self .., zf1 := ?_, Tf1 := ?_, zf2 := ?_, Tf2 := ?_, sep1_2 := ?_, sep2_1 := ?_ } <;> (intro h; rcases List.mem_cons.mp h with h | h)
  · exact (n3) h
  · exact (a1 _ h).1 rfl
  · exact (n8) h
  · exact (a1 _ h).2.2.1 rfl
  · exact (n4) h
  · exact (a2 _ h).1 rfl
  · exact (n9) h
  · exact (a2 _ h).2.2.1 rfl
  · exact (n10) h
  · exact (a2 _ h).2.2.2.1 rfl
  · exact (Ne.symm n10) h
  · exact (a1 _ h).2.2.2.2 rfl
theorem turn_zipG2 {P : Program} {w : World} {K : PySem.W.Frag} {elts : List Expr} {kk : Nat} {tpos : Pos} {z TI TO i1 i2 : Addr} {s1 s2 : Src} (D : Apart2 z TI TO i1 i2 s1 s2) :
    Turn P w K (.Tuple elts kk tpos) (It2 K s1 s2) [z, TI, TO, i1, i2] z (fun i h => IsZip h z TI TO .none ∧ IsTupOf2 h TI (.ref i1) (.ref i2) ∧ (∃ a1 a2, IsTupOf2 h TO a1 a2) ∧ SrcIt h i1 i s1 ∧ SrcIt h i2 i s2) where
  mem := by simp
  obj := fun i h st c hc => by
    obtain ⟨hz, hTI, ⟨y1, y2, hTO⟩, h1, h2⟩ := st
    have e' : c = z ∨ c = TI ∨ c = TO ∨ c = i1 ∨ c = i2 := by simpa using hc
    rcases e' with q | q | q | q | q
    · rw [q]; exact ⟨_, hz, fun v q => nomatch q⟩
    · rw [q]; exact ⟨_, hTI, fun v q => nomatch q⟩
    · rw [q]; exact ⟨_, hTO, fun v q => nomatch q⟩
    · rw [q]; exact h1.obj
    · rw [q]; exact h2.obj
  keep := fun i h h' st k => by
    obtain ⟨hz, hTI, ⟨y1, y2, hTO⟩, h1, h2⟩ := st
    exact ⟨k z (by simp) _ hz, k TI (by simp) _ hTI, ⟨y1, y2, k TO (by simp) _ hTO⟩, h1.keep fun o q => k i1 (by simp) o q, h2.keep fun o q => k i2 (by simp) o q⟩
  item := by
    intro X hP hw hK hc i pins s σ H E I hf st hg
    subst hP hw hK
    obtain ⟨hz, hTI, ⟨y1, y2, hTO⟩, h1, h2⟩ := st
    obtain ⟨l1, l2, x1, x2, q1, e1, q2, e2⟩ := hg
    have ne1 : ∀ l ∈ s1.ad, l ≠ i1 := fun l hl z => D.a1 l hl (by rw [z]; simp)
    obtain ⟨P1, St1, D1, t1, g1, k1⟩ := src_draws I (I.ok.hd hc) ne1 q1 h1
    have b1 : i < l1.length := (List.getElem?_eq_some_iff.mp e1).1
    have ne2 : ∀ l ∈ s2.ad, l ≠ i2 := fun l hl z => D.a2 l hl (by rw [z]; simp)
    obtain ⟨P2, St2, D2, t2, g2, k2⟩ := src_draws I (I.ok.hd hc) ne2 q2 h2
    have b2 : i < l2.length := (List.getElem?_eq_some_iff.mp e2).1
    have hzl : z < s.heap.objs.size := Heap.lt_size hz
    refine wpAny_pyNext_zipD2_item D.sep D1 D2 hz hTI hTO t1 t2 b1 b2 fun u1 u2 h' tk p1 p2 z' TO' w1 w2 hT hsz hk => ?_
    obtain ⟨v1, f1, r1⟩ := g1 _ _ p1
    rw [e1] at f1; cases f1
    obtain ⟨v2, f2, r2⟩ := g2 _ _ p2
    rw [e2] at f2; cases f2
    refine ⟨_, rfl, wpAny_letOwnedTupleGo_zip (s := { s with heap := h', toks := tk }) z' fun h'' z'' sb => ?_⟩
    have hT2 : h''.get? s.heap.objs.size = some { cls := .type "tuple", data := .seq #[u1, u2] } := (sb.2 _ (Nat.ne_of_gt hzl)).trans hT
    have new : ObjOk X.prog X.w (upd H s.heap.objs.size (.tup [x1, x2])) h'' s.heap.objs.size (.tup [x1, x2]) :=
      ⟨by show 2 ≤ sizeLine; decide, [u1, u2], .cons r1 (.cons r2 .nil), ⟨_, hT2, rfl, _, rfl⟩⟩
    have I1 : Inv X pins σ (upd H s.heap.objs.size (.tup [x1, x2])) { s with heap := h'', toks := tk } :=
      I.turnedNew (t' := tk) (ch := [z, TO, i1, i2]) (fun c o hb q => (sb.2 c (fun q' => hb (by simp [q']))).trans (hk c o (fun q' => hb (by simp [q'])) (fun q' => hb (by simp [q'])) (fun q' => hb (by simp [q'])) (fun q' => hb (by simp [q'])) q)) (fun b hb => hf b (by simp at hb ⊢; rcases hb with h | h | h | h <;> simp [h])) (Nat.le_refl _) new
    have nd := D.nd
    simp only [List.nodup_cons, List.mem_cons, List.not_mem_nil, not_or, or_false, not_false_eq_true, List.nodup_nil, and_true] at nd
    obtain ⟨⟨n1, n2, n3, n4⟩, ⟨n5, n6, n7⟩, ⟨n8, n9⟩, n10⟩ := nd
    refine ⟨.ref s.heap.objs.size, _, I1, rfl, ⟨_, x1, x2, rfl, I.hok.fresh (Nat.le_refl _), rfl, fun l hl => by rw [src_inj I hl q1]; exact e1, fun l hl => by rw [src_inj I hl q2]; exact e2⟩, ⟨z'', ?_, ⟨u1, u2, ?_⟩, (k1 _ _ w1).keep fun o q => (sb.2 _ (Ne.symm n3)).trans q, (k2 _ _ w2).keep fun o q => (sb.2 _ (Ne.symm n4)).trans q⟩, fun c hcm => ?_⟩
    · exact (sb.2 _ (Ne.symm n1)).trans (hk _ _ (Ne.symm n1) n5 n6 n7 hTI)
    · exact (sb.2 _ (Ne.symm n2)).trans TO'
    · have hlt : c < s.heap.objs.size := by
        have e' : c = z ∨ c = TI ∨ c = TO ∨ c = i1 ∨ c = i2 := by simpa using hcm
        rcases e' with q | q | q | q | q
        · rw [q]; exact hzl
        · rw [q]; exact Heap.lt_size hTI
        · rw [q]; exact Heap.lt_size hTO
        · rw [q]; obtain ⟨_, e, _⟩ := h1.obj; exact Heap.lt_size e
        · rw [q]; obtain ⟨_, e, _⟩ := h2.obj; exact Heap.lt_size e
      rw [upd_ne (Nat.ne_of_lt hlt)]
      exact (hf c hcm).1
  done := by
    intro X hP hw hK hc i pins s σ H E I hf st hg
    subst hP hw hK
    obtain ⟨hz, hTI, ⟨y1, y2, hTO⟩, h1, h2⟩ := st
    obtain ⟨l1, l2, q1, b1, q2, b2, hend⟩ := hg
    have ne1 : ∀ l ∈ s1.ad, l ≠ i1 := fun l hl z => D.a1 l hl (by rw [z]; simp)
    obtain ⟨P1, St1, D1, t1, g1, k1⟩ := src_draws I (I.ok.hd hc) ne1 q1 h1
    have ne2 : ∀ l ∈ s2.ad, l ≠ i2 := fun l hl z => D.a2 l hl (by rw [z]; simp)
    obtain ⟨P2, St2, D2, t2, g2, k2⟩ := src_draws I (I.ok.hd hc) ne2 q2 h2
    exact wpAny_pyNext_zipD2_end D.sep D1 D2 hz hTI hTO t1 t2 b1 b2 hend fun h' tk hk => ⟨rfl, I.turnedL (t' := tk) (ch := [z, TO, i1, i2]) (fun c o hb q =>
      hk c o (fun q' => hb (by simp [q'])) (fun q' => hb (by simp [q'])) (fun q' => hb (by simp [q'])) (fun q' => hb (by simp [q'])) q) (fun b hb => hf b (by simp at hb ⊢; rcases hb with h | h | h | h <;> simp [h]))⟩
  self := fun A i s Q E st h => wpAny_pyIter_zip st.1 h
def iZipG2 (K : PySem.W.Frag) (ta : TA) : TI := fun σ H R => ta σ H fun vs H1 => ∃ (s1 s2 : Src) (l1 l2 : List V), vs = [s1.v, s2.v] ∧ SrcLs K H1 s1 l1 ∧ SrcLs K H1 s2 l2 ∧ R (It2 K s1 s2) H1
theorem pi_zipG2 {X : Cx} {e1 e2 : Expr} {ta : TA} {p pos tpos : Pos} {elts : List Expr} {kk : Nat} (hg : Gl X "zip") (hm : X.mg "zip" = none) (ha : PA X [e1, e2] ta)
    (hs : starEach [e1, e2] X.env = (false, eval e1 X.env) :: starEach [e2] X.env := by rfl) (hpl : (backTo pos (starEach [e2] X.env)).any (·.1) = false := by rfl) :
    PI X (.Tuple elts kk tpos) (.Call (.Name "zip" p) [e1, e2] [] pos) (iZipG2 X.K ta) := by
  refine ⟨fun pins s σ H R I h => ?_⟩
  refine Call_ (ld_blt I hg hm PyProof.Rows.boot_zip (PyProof.Rows.callWith_type1 (thn (ha.run pos pins s σ H _ I h) fun us sA ⟨vs, H1, I1, r1, q1⟩ => ?_) hs hpl))
  obtain ⟨s1, s2, l1, l2, ex, q1, q2, q⟩ := q1
  subst ex
  obtain ⟨u1, u2, rfl, r1, r2⟩ := vals2 r1
  obtain ⟨o1, G1, B1, y1, z1⟩ := src_begins I1 q1 r1
  obtain ⟨o2, G2, B2, y2, z2⟩ := src_begins I1 q2 r2
  refine zip_begins2 B1 B2 y1 y2 fun h' hz hTI hTO w1 w2 hsz hk => wpAny_pyIter_zip hz ?_
  have I2 : Inv X pins σ H1 { sA with heap := h' } := I1.kept (t' := sA.toks) hk
  have ap : Apart2 (sA.heap.objs.size + 4) (sA.heap.objs.size + 2) (sA.heap.objs.size + 3) (sA.heap.objs.size) (sA.heap.objs.size + 1) s1 s2 := by
    refine ⟨by simp, fun l hl z => ?_, fun l hl z => ?_⟩
    · have := src_lt I1 q1 l hl
      simp at z
      rcases z with h | h | h | h | h <;> (rw [h] at this; exact absurd this (by first | exact Nat.lt_irrefl _ | exact Nat.not_lt.mpr (Nat.le_add_right _ _)))
    · have := src_lt I1 q2 l hl
      simp at z
      rcases z with h | h | h | h | h <;> (rw [h] at this; exact absurd this (by first | exact Nat.lt_irrefl _ | exact Nat.not_lt.mpr (Nat.le_add_right _ _)))
  refine ⟨sA.heap.objs.size + 4, [sA.heap.objs.size + 4, sA.heap.objs.size + 2, sA.heap.objs.size + 3, sA.heap.objs.size, sA.heap.objs.size + 1], _, _, H1, rfl, I2, turn_zipG2 ap, ⟨hz, hTI, ⟨_, _, hTO⟩, z1 _ _ w1, z2 _ _ w2⟩, fun c hcm => ?_, q⟩
  have hle : sA.heap.objs.size ≤ c := by
    simp at hcm
    rcases hcm with h | h | h | h | h <;> (rw [h]; first | exact Nat.le_refl _ | exact Nat.le_add_right _ _)
  exact I1.fpOk hle (I1.hok.fresh hle)
theorem it_zipG2 {K : PySem.W.Frag} {mg : Str → Option Value} {H1 : Hp} {h0 : DH} {s1 s2 : Src} {d1 d2 : List D} {c1 c2 : DH → Prop} (L1 : SrcOk K mg H1 h0 s1 d1 c1) (L2 : SrcOk K mg H1 h0 s2 d2 c2) : ItOk K mg H1 h0 (It2 K s1 s2) (zipD d1 d2) fun h => c1 h ∧ c2 h := by
  refine ⟨fun i H h g r c hi => ?_, fun i H h x H' g r c hi y => ?_, fun H h g r c => ?_⟩
  · rw [zipD_len] at hi
    obtain ⟨v1, q1, l1⟩ := L1.at_ H h g r c.1
    obtain ⟨v2, q2, l2⟩ := L2.at_ H h g r c.2
    have b1 : i < v1.length := by rw [l1.length]; omega
    have b2 : i < v2.length := by rw [l2.length]; omega
    exact ⟨v1, v2, v1[i], v2[i], q1, by simp [b1], q2, by simp [b2]⟩
  · rw [zipD_len] at hi
    obtain ⟨v1, q1, l1⟩ := L1.at_ H h g r c.1
    obtain ⟨v2, q2, l2⟩ := L2.at_ H h g r c.2
    obtain ⟨T, x1, x2, rfl, nT, rfl, f1, f2⟩ := y
    have b1 : i < d1.length := by omega
    obtain ⟨u1, e1, r1⟩ := l1.get (List.getElem?_eq_getElem b1)
    have g1 := f1 v1 q1
    rw [e1] at g1; cases g1
    have b2 : i < d2.length := by omega
    obtain ⟨u2, e2, r2⟩ := l2.get (List.getElem?_eq_getElem b2)
    have g2 := f2 v2 q2
    rw [e2] at g2; cases g2
    refine ⟨Gr.under nT, r.under nT, _, zipD_get (List.getElem?_eq_getElem b1) (List.getElem?_eq_getElem b2), ?_⟩
    unfold Rp
    exact ⟨T, _, rfl, SqT.of upd_same, RpL.cons (Rp.monoT (TK.new nT) _ _ r1) (RpL.cons (Rp.monoT (TK.new nT) _ _ r2) RpL.nil)⟩
  · obtain ⟨v1, q1, l1⟩ := L1.at_ H h g r c.1
    obtain ⟨v2, q2, l2⟩ := L2.at_ H h g r c.2
    have b1 := l1.length
    have b2 := l2.length
    refine ⟨v1, v2, q1, by rw [zipD_len]; omega, q2, by rw [zipD_len]; omega, ?_⟩
    rw [zipD_len]; omega
def It3 (K : PySem.W.Frag) (s1 s2 s3 : Src) : It :=
  ⟨fun i H => ∃ (l1 l2 l3 : List V) (x1 x2 x3 : V), SrcLs K H s1 l1 ∧ l1[i]? = some x1 ∧ SrcLs K H s2 l2 ∧ l2[i]? = some x2 ∧ SrcLs K H s3 l3 ∧ l3[i]? = some x3,
    fun i H v H' => ∃ T x1 x2 x3, v = .ref T ∧ H T = none ∧ H' = upd H T (.tup [x1, x2, x3]) ∧ (∀ l, SrcLs K H s1 l → l[i]? = some x1) ∧ (∀ l, SrcLs K H s2 l → l[i]? = some x2) ∧ (∀ l, SrcLs K H s3 l → l[i]? = some x3),
    fun i H => ∃ l1 l2 l3 : List V, SrcLs K H s1 l1 ∧ i ≤ l1.length ∧ SrcLs K H s2 l2 ∧ i ≤ l2.length ∧ SrcLs K H s3 l3 ∧ i ≤ l3.length ∧ (i = l1.length ∨ i = l2.length ∨ i = l3.length)⟩
structure Apart3 (z TI TO i1 i2 i3 : Addr) (s1 s2 s3 : Src) : Prop where
  nd : ([z, TI, TO, i1, i2, i3] : List Addr).Nodup
  a1 : ∀ l ∈ s1.ad, l ∉ ([z, TI, TO, i1, i2, i3] : List Addr)
  a2 : ∀ l ∈ s2.ad, l ∉ ([z, TI, TO, i1, i2, i3] : List Addr)
  a3 : ∀ l ∈ s3.ad, l ∉ ([z, TI, TO, i1, i2, i3] : List Addr)
theorem Apart3.sep {z TI TO i1 i2 i3 : Addr} {s1 s2 s3 : Src} (D : Apart3 z TI TO i1 i2 i3 s1 s2 s3) : ZipSep3 z TI TO i1 i2 i3 (i1 :: s1.ad) (i2 :: s2.ad) (i3 :: s3.ad) := by
  obtain ⟨nd, a1, a2, a3⟩ := D
  simp only [List.nodup_cons, List.mem_cons, List.not_mem_nil, not_or, or_false, not_false_eq_true, List.nodup_nil, and_true] at nd a1 a2 a3
  obtain ⟨⟨n1, n2, n3, n4, m4⟩, ⟨n5, n6, n7, m7⟩, ⟨n8, n9, m9⟩, ⟨n10, m10⟩, m11⟩ := nd
  refine { TIz := Ne.symm n1, TOz := Ne.symm n2, TITO := n5, TIi1 := n6, TIi2 := n7, TIi3 := m7, mem1 := List.mem_cons_self .., mem2 := List.mem_cons_self .., mem3 := List.mem_cons_self .., zf1 := ?_, Tf1 := ?_, zf2 := ?_, Tf2 := ?_, zf3 := ?_, Tf3 := ?_, sep1_2 := ?_, sep1_3 := ?_, sep2_1 := ?_, sep2_3 := ?_, sep3_1 := ?_, sep3_2 := ?_ } <;> (intro h; rcases List.mem_cons.mp h with h | h)
  · exact (n3) h
  · exact (a1 _ h).1 rfl
  · exact (n8) h
  · exact (a1 _ h).2.2.1 rfl
  · exact (n4) h
  · exact (a2 _ h).1 rfl
  · exact (n9) h
  · exact (a2 _ h).2.2.1 rfl
  · exact (m4) h
  · exact (a3 _ h).1 rfl
  · exact (m9) h
  · exact (a3 _ h).2.2.1 rfl
  · exact (n10) h
  · exact (a2 _ h).2.2.2.1 rfl
  · exact (m10) h
  · exact (a3 _ h).2.2.2.1 rfl
  · exact (Ne.symm n10) h
  · exact (a1 _ h).2.2.2.2.1 rfl
  · exact (m11) h
  · exact (a3 _ h).2.2.2.2.1 rfl
  · exact (Ne.symm m10) h
  · exact (a1 _ h).2.2.2.2.2 rfl
  · exact (Ne.symm m11) h
  · exact (a2 _ h).2.2.2.2.2 rfl
theorem turn_zipG3 {P : Program} {w : World} {K : PySem.W.Frag} {elts : List Expr} {kk : Nat} {tpos : Pos} {z TI TO i1 i2 i3 : Addr} {s1 s2 s3 : Src} (D : Apart3 z TI TO i1 i2 i3 s1 s2 s3) :
    Turn P w K (.Tuple elts kk tpos) (It3 K s1 s2 s3) [z, TI, TO, i1, i2, i3] z (fun i h => IsZip h z TI TO .none ∧ IsTupOf3 h TI (.ref i1) (.ref i2) (.ref i3) ∧ (∃ a1 a2 a3, IsTupOf3 h TO a1 a2 a3) ∧ SrcIt h i1 i s1 ∧ SrcIt h i2 i s2 ∧ SrcIt h i3 i s3) where
  mem := by simp
  obj := fun i h st c hc => by
    obtain ⟨hz, hTI, ⟨y1, y2, y3, hTO⟩, h1, h2, h3⟩ := st
    have e' : c = z ∨ c = TI ∨ c = TO ∨ c = i1 ∨ c = i2 ∨ c = i3 := by simpa using hc
    rcases e' with q | q | q | q | q | q
    · rw [q]; exact ⟨_, hz, fun v q => nomatch q⟩
    · rw [q]; exact ⟨_, hTI, fun v q => nomatch q⟩
    · rw [q]; exact ⟨_, hTO, fun v q => nomatch q⟩
    · rw [q]; exact h1.obj
    · rw [q]; exact h2.obj
    · rw [q]; exact h3.obj
  keep := fun i h h' st k => by
    obtain ⟨hz, hTI, ⟨y1, y2, y3, hTO⟩, h1, h2, h3⟩ := st
    exact ⟨k z (by simp) _ hz, k TI (by simp) _ hTI, ⟨y1, y2, y3, k TO (by simp) _ hTO⟩, h1.keep fun o q => k i1 (by simp) o q, h2.keep fun o q => k i2 (by simp) o q, h3.keep fun o q => k i3 (by simp) o q⟩
  item := by
    intro X hP hw hK hc i pins s σ H E I hf st hg
    subst hP hw hK
    obtain ⟨hz, hTI, ⟨y1, y2, y3, hTO⟩, h1, h2, h3⟩ := st
    obtain ⟨l1, l2, l3, x1, x2, x3, q1, e1, q2, e2, q3, e3⟩ := hg
    have ne1 : ∀ l ∈ s1.ad, l ≠ i1 := fun l hl z => D.a1 l hl (by rw [z]; simp)
    obtain ⟨P1, St1, D1, t1, g1, k1⟩ := src_draws I (I.ok.hd hc) ne1 q1 h1
    have b1 : i < l1.length := (List.getElem?_eq_some_iff.mp e1).1
    have ne2 : ∀ l ∈ s2.ad, l ≠ i2 := fun l hl z => D.a2 l hl (by rw [z]; simp)
    obtain ⟨P2, St2, D2, t2, g2, k2⟩ := src_draws I (I.ok.hd hc) ne2 q2 h2
    have b2 : i < l2.length := (List.getElem?_eq_some_iff.mp e2).1
    have ne3 : ∀ l ∈ s3.ad, l ≠ i3 := fun l hl z => D.a3 l hl (by rw [z]; simp)
    obtain ⟨P3, St3, D3, t3, g3, k3⟩ := src_draws I (I.ok.hd hc) ne3 q3 h3
    have b3 : i < l3.length := (List.getElem?_eq_some_iff.mp e3).1
    have hzl : z < s.heap.objs.size := Heap.lt_size hz
    refine wpAny_pyNext_zipD3_item D.sep D1 D2 D3 hz hTI hTO t1 t2 t3 b1 b2 b3 fun u1 u2 u3 h' tk p1 p2 p3 z' TO' w1 w2 w3 hT hsz hk => ?_
    obtain ⟨v1, f1, r1⟩ := g1 _ _ p1
    rw [e1] at f1; cases f1
    obtain ⟨v2, f2, r2⟩ := g2 _ _ p2
    rw [e2] at f2; cases f2
    obtain ⟨v3, f3, r3⟩ := g3 _ _ p3
    rw [e3] at f3; cases f3
    refine ⟨_, rfl, wpAny_letOwnedTupleGo_zip (s := { s with heap := h', toks := tk }) z' fun h'' z'' sb => ?_⟩
    have hT2 : h''.get? s.heap.objs.size = some { cls := .type "tuple", data := .seq #[u1, u2, u3] } := (sb.2 _ (Nat.ne_of_gt hzl)).trans hT
    have new : ObjOk X.prog X.w (upd H s.heap.objs.size (.tup [x1, x2, x3])) h'' s.heap.objs.size (.tup [x1, x2, x3]) :=
      ⟨by show 3 ≤ sizeLine; decide, [u1, u2, u3], .cons r1 (.cons r2 (.cons r3 .nil)), ⟨_, hT2, rfl, _, rfl⟩⟩
    have I1 : Inv X pins σ (upd H s.heap.objs.size (.tup [x1, x2, x3])) { s with heap := h'', toks := tk } :=
      I.turnedNew (t' := tk) (ch := [z, TO, i1, i2, i3]) (fun c o hb q => (sb.2 c (fun q' => hb (by simp [q']))).trans (hk c o (fun q' => hb (by simp [q'])) (fun q' => hb (by simp [q'])) (fun q' => hb (by simp [q'])) (fun q' => hb (by simp [q'])) (fun q' => hb (by simp [q'])) q)) (fun b hb => hf b (by simp at hb ⊢; rcases hb with h | h | h | h | h <;> simp [h])) (Nat.le_refl _) new
    have nd := D.nd
    simp only [List.nodup_cons, List.mem_cons, List.not_mem_nil, not_or, or_false, not_false_eq_true, List.nodup_nil, and_true] at nd
    obtain ⟨⟨n1, n2, n3, n4, m4⟩, ⟨n5, n6, n7, m7⟩, ⟨n8, n9, m9⟩, ⟨n10, m10⟩, m11⟩ := nd
    refine ⟨.ref s.heap.objs.size, _, I1, rfl, ⟨_, x1, x2, x3, rfl, I.hok.fresh (Nat.le_refl _), rfl, fun l hl => by rw [src_inj I hl q1]; exact e1, fun l hl => by rw [src_inj I hl q2]; exact e2, fun l hl => by rw [src_inj I hl q3]; exact e3⟩, ⟨z'', ?_, ⟨u1, u2, u3, ?_⟩, (k1 _ _ w1).keep fun o q => (sb.2 _ (Ne.symm n3)).trans q, (k2 _ _ w2).keep fun o q => (sb.2 _ (Ne.symm n4)).trans q, (k3 _ _ w3).keep fun o q => (sb.2 _ (Ne.symm m4)).trans q⟩, fun c hcm => ?_⟩
    · exact (sb.2 _ (Ne.symm n1)).trans (hk _ _ (Ne.symm n1) n5 n6 n7 m7 hTI)
    · exact (sb.2 _ (Ne.symm n2)).trans TO'
    · have hlt : c < s.heap.objs.size := by
        have e' : c = z ∨ c = TI ∨ c = TO ∨ c = i1 ∨ c = i2 ∨ c = i3 := by simpa using hcm
        rcases e' with q | q | q | q | q | q
        · rw [q]; exact hzl
        · rw [q]; exact Heap.lt_size hTI
        · rw [q]; exact Heap.lt_size hTO
        · rw [q]; obtain ⟨_, e, _⟩ := h1.obj; exact Heap.lt_size e
        · rw [q]; obtain ⟨_, e, _⟩ := h2.obj; exact Heap.lt_size e
        · rw [q]; obtain ⟨_, e, _⟩ := h3.obj; exact Heap.lt_size e
      rw [upd_ne (Nat.ne_of_lt hlt)]
      exact (hf c hcm).1
  done := by
    intro X hP hw hK hc i pins s σ H E I hf st hg
    subst hP hw hK
    obtain ⟨hz, hTI, ⟨y1, y2, y3, hTO⟩, h1, h2, h3⟩ := st
    obtain ⟨l1, l2, l3, q1, b1, q2, b2, q3, b3, hend⟩ := hg
    have ne1 : ∀ l ∈ s1.ad, l ≠ i1 := fun l hl z => D.a1 l hl (by rw [z]; simp)
    obtain ⟨P1, St1, D1, t1, g1, k1⟩ := src_draws I (I.ok.hd hc) ne1 q1 h1
    have ne2 : ∀ l ∈ s2.ad, l ≠ i2 := fun l hl z => D.a2 l hl (by rw [z]; simp)
    obtain ⟨P2, St2, D2, t2, g2, k2⟩ := src_draws I (I.ok.hd hc) ne2 q2 h2
    have ne3 : ∀ l ∈ s3.ad, l ≠ i3 := fun l hl z => D.a3 l hl (by rw [z]; simp)
    obtain ⟨P3, St3, D3, t3, g3, k3⟩ := src_draws I (I.ok.hd hc) ne3 q3 h3
    exact wpAny_pyNext_zipD3_end D.sep D1 D2 D3 hz hTI hTO t1 t2 t3 b1 b2 b3 hend fun h' tk hk => ⟨rfl, I.turnedL (t' := tk) (ch := [z, TO, i1, i2, i3]) (fun c o hb q =>
      hk c o (fun q' => hb (by simp [q'])) (fun q' => hb (by simp [q'])) (fun q' => hb (by simp [q'])) (fun q' => hb (by simp [q'])) (fun q' => hb (by simp [q'])) q) (fun b hb => hf b (by simp at hb ⊢; rcases hb with h | h | h | h | h <;> simp [h]))⟩
  self := fun A i s Q E st h => wpAny_pyIter_zip st.1 h
def iZipG3 (K : PySem.W.Frag) (ta : TA) : TI := fun σ H R => ta σ H fun vs H1 => ∃ (s1 s2 s3 : Src) (l1 l2 l3 : List V), vs = [s1.v, s2.v, s3.v] ∧ SrcLs K H1 s1 l1 ∧ SrcLs K H1 s2 l2 ∧ SrcLs K H1 s3 l3 ∧ R (It3 K s1 s2 s3) H1
theorem pi_zipG3 {X : Cx} {e1 e2 e3 : Expr} {ta : TA} {p pos tpos : Pos} {elts : List Expr} {kk : Nat} (hg : Gl X "zip") (hm : X.mg "zip" = none) (ha : PA X [e1, e2, e3] ta)
    (hs : starEach [e1, e2, e3] X.env = (false, eval e1 X.env) :: starEach [e2, e3] X.env := by rfl) (hpl : (backTo pos (starEach [e2, e3] X.env)).any (·.1) = false := by rfl) :
    PI X (.Tuple elts kk tpos) (.Call (.Name "zip" p) [e1, e2, e3] [] pos) (iZipG3 X.K ta) := by
  refine ⟨fun pins s σ H R I h => ?_⟩
  refine Call_ (ld_blt I hg hm PyProof.Rows.boot_zip (PyProof.Rows.callWith_type1 (thn (ha.run pos pins s σ H _ I h) fun us sA ⟨vs, H1, I1, r1, q1⟩ => ?_) hs hpl))
  obtain ⟨s1, s2, s3, l1, l2, l3, ex, q1, q2, q3, q⟩ := q1
  subst ex
  cases r1 with
  | @cons _ u1 _ us1 r1 rr =>
  cases rr with
  | @cons _ u2 _ us2 r2 rr =>
  cases rr with
  | @cons _ u3 _ us3 r3 rr =>
  cases rr
  obtain ⟨o1, G1, B1, y1, z1⟩ := src_begins I1 q1 r1
  obtain ⟨o2, G2, B2, y2, z2⟩ := src_begins I1 q2 r2
  obtain ⟨o3, G3, B3, y3, z3⟩ := src_begins I1 q3 r3
  refine zip_begins3 B1 B2 B3 y1 y2 y3 fun h' hz hTI hTO w1 w2 w3 hsz hk => wpAny_pyIter_zip hz ?_
  have I2 : Inv X pins σ H1 { sA with heap := h' } := I1.kept (t' := sA.toks) hk
  have ap : Apart3 (sA.heap.objs.size + 5) (sA.heap.objs.size + 3) (sA.heap.objs.size + 4) (sA.heap.objs.size) (sA.heap.objs.size + 1) (sA.heap.objs.size + 2) s1 s2 s3 := by
    refine ⟨by simp, fun l hl z => ?_, fun l hl z => ?_, fun l hl z => ?_⟩
    · have := src_lt I1 q1 l hl
      simp at z
      rcases z with h | h | h | h | h | h <;> (rw [h] at this; exact absurd this (by first | exact Nat.lt_irrefl _ | exact Nat.not_lt.mpr (Nat.le_add_right _ _)))
    · have := src_lt I1 q2 l hl
      simp at z
      rcases z with h | h | h | h | h | h <;> (rw [h] at this; exact absurd this (by first | exact Nat.lt_irrefl _ | exact Nat.not_lt.mpr (Nat.le_add_right _ _)))
    · have := src_lt I1 q3 l hl
      simp at z
      rcases z with h | h | h | h | h | h <;> (rw [h] at this; exact absurd this (by first | exact Nat.lt_irrefl _ | exact Nat.not_lt.mpr (Nat.le_add_right _ _)))
  refine ⟨sA.heap.objs.size + 5, [sA.heap.objs.size + 5, sA.heap.objs.size + 3, sA.heap.objs.size + 4, sA.heap.objs.size, sA.heap.objs.size + 1, sA.heap.objs.size + 2], _, _, H1, rfl, I2, turn_zipG3 ap, ⟨hz, hTI, ⟨_, _, _, hTO⟩, z1 _ _ w1, z2 _ _ w2, z3 _ _ w3⟩, fun c hcm => ?_, q⟩
  have hle : sA.heap.objs.size ≤ c := by
    simp at hcm
    rcases hcm with h | h | h | h | h | h <;> (rw [h]; first | exact Nat.le_refl _ | exact Nat.le_add_right _ _)
  exact I1.fpOk hle (I1.hok.fresh hle)
def zip3D (xs ys zs : List D) : List D := List.zipWith (fun a (p : D × D) => .tup [a, p.1, p.2]) xs (List.zip ys zs)
theorem zip3D_get {xs ys zs : List D} {i : Nat} {x y z : D} (h : xs[i]? = some x) (h2 : ys[i]? = some y) (h3 : zs[i]? = some z) : (zip3D xs ys zs)[i]? = some (.tup [x, y, z]) := by
  unfold zip3D
  rw [List.getElem?_zipWith, h, show (List.zip ys zs)[i]? = some (y, z) from List.getElem?_zip_eq_some.mpr ⟨h2, h3⟩]
theorem zip3D_len {xs ys zs : List D} : (zip3D xs ys zs).length = min xs.length (min ys.length zs.length) := by simp [zip3D]
theorem it_zipG3 {K : PySem.W.Frag} {mg : Str → Option Value} {H1 : Hp} {h0 : DH} {s1 s2 s3 : Src} {d1 d2 d3 : List D} {c1 c2 c3 : DH → Prop} (L1 : SrcOk K mg H1 h0 s1 d1 c1) (L2 : SrcOk K mg H1 h0 s2 d2 c2) (L3 : SrcOk K mg H1 h0 s3 d3 c3) : ItOk K mg H1 h0 (It3 K s1 s2 s3) (zip3D d1 d2 d3) fun h => c1 h ∧ c2 h ∧ c3 h := by
  refine ⟨fun i H h g r c hi => ?_, fun i H h x H' g r c hi y => ?_, fun H h g r c => ?_⟩
  · rw [zip3D_len] at hi
    obtain ⟨v1, q1, l1⟩ := L1.at_ H h g r c.1
    obtain ⟨v2, q2, l2⟩ := L2.at_ H h g r c.2.1
    obtain ⟨v3, q3, l3⟩ := L3.at_ H h g r c.2.2
    have b1 : i < v1.length := by rw [l1.length]; omega
    have b2 : i < v2.length := by rw [l2.length]; omega
    have b3 : i < v3.length := by rw [l3.length]; omega
    exact ⟨v1, v2, v3, v1[i], v2[i], v3[i], q1, by simp [b1], q2, by simp [b2], q3, by simp [b3]⟩
  · rw [zip3D_len] at hi
    obtain ⟨v1, q1, l1⟩ := L1.at_ H h g r c.1
    obtain ⟨v2, q2, l2⟩ := L2.at_ H h g r c.2.1
    obtain ⟨v3, q3, l3⟩ := L3.at_ H h g r c.2.2
    obtain ⟨T, x1, x2, x3, rfl, nT, rfl, f1, f2, f3⟩ := y
    have b1 : i < d1.length := by omega
    obtain ⟨u1, e1, r1⟩ := l1.get (List.getElem?_eq_getElem b1)
    have g1 := f1 v1 q1
    rw [e1] at g1; cases g1
    have b2 : i < d2.length := by omega
    obtain ⟨u2, e2, r2⟩ := l2.get (List.getElem?_eq_getElem b2)
    have g2 := f2 v2 q2
    rw [e2] at g2; cases g2
    have b3 : i < d3.length := by omega
    obtain ⟨u3, e3, r3⟩ := l3.get (List.getElem?_eq_getElem b3)
    have g3 := f3 v3 q3
    rw [e3] at g3; cases g3
    refine ⟨Gr.under nT, r.under nT, _, zip3D_get (List.getElem?_eq_getElem b1) (List.getElem?_eq_getElem b2) (List.getElem?_eq_getElem b3), ?_⟩
    unfold Rp
    exact ⟨T, _, rfl, SqT.of upd_same, RpL.cons (Rp.monoT (TK.new nT) _ _ r1) (RpL.cons (Rp.monoT (TK.new nT) _ _ r2) (RpL.cons (Rp.monoT (TK.new nT) _ _ r3) RpL.nil))⟩
  · obtain ⟨v1, q1, l1⟩ := L1.at_ H h g r c.1
    obtain ⟨v2, q2, l2⟩ := L2.at_ H h g r c.2.1
    obtain ⟨v3, q3, l3⟩ := L3.at_ H h g r c.2.2
    have b1 := l1.length
    have b2 := l2.length
    have b3 := l3.length
    refine ⟨v1, v2, v3, q1, by rw [zip3D_len]; omega, q2, by rw [zip3D_len]; omega, q3, by rw [zip3D_len]; omega, ?_⟩
    rw [zip3D_len]; omega
/-- two things that are walked side by side -/
def zipAny (d e : D) (h : DH) (k : List D → (DH → Prop) → Prop) : Prop := asIt d h fun xs c1 => asIt e h fun ys c2 => k (zipD xs ys) fun h' => c1 h' ∧ c2 h'
def zipOf (d e : D) (h : DH) (k : List D → (DH → Prop) → Prop) : Prop := match d, e with
  | .tup xs, .tup ys => k (zipD xs ys) fun _ => True
  | d, e => zipAny d e h k
def zip3Of (d e f : D) (h : DH) (k : List D → (DH → Prop) → Prop) : Prop := asIt d h fun xs c1 => asIt e h fun ys c2 => asIt f h fun zs c3 => k (zip3D xs ys zs) fun h' => c1 h' ∧ c2 h' ∧ c3 h'
def threeD : List D → (D → D → D → Prop) → Prop
  | [d, e, f], k => k d e f
  | _, _ => False
theorem RpL.three {K : PySem.W.Frag} {H : Hp} {d e f : D} {vs : List V} (r : RpL K H [d, e, f] vs) : ∃ v w x, vs = [v, w, x] ∧ Rp K H d v ∧ Rp K H e w ∧ Rp K H f x := by
  unfold RpL at r
  obtain ⟨v, t, rfl, q, l⟩ := r
  obtain ⟨w, x, rfl, z1, z2⟩ := l.two
  exact ⟨v, w, x, rfl, q, z1, z2⟩
theorem ItOk.imp {K : PySem.W.Frag} {mg : Str → Option Value} {H1 : Hp} {h0 : DH} {J : It} {items : List D} {c c' : DH → Prop} (x : ItOk K mg H1 h0 J items c) (i : ∀ h, c' h → c h) : ItOk K mg H1 h0 J items c' :=
  ⟨fun j H h g r q => x.go j H h g r (i h q), fun j H h v H' g r q => x.yld j H h v H' g r (i h q), fun H h g r q => x.stop H h g r (i h q)⟩
def dZip (t : DTA) : DTI := fun env h Q => t env h fun ds h1 => twoD ds fun d e => zipOf d e h1 fun items chk => Q items chk h1
def dZip3 (t : DTA) : DTI := fun env h Q => t env h fun ds h1 => threeD ds fun d e f => zip3Of d e f h1 fun items chk => Q items chk h1
section
variable {X : Cx} {G : Option (Hp × DH)} {e1 e2 e3 : Expr} {ta : DTA} {p pos tpos : Pos} {elts : List Expr} {kk : Nat}
theorem di_zip (hg : Gl X "zip") (hm : X.mg "zip" = none) (ha : DA X G [e1, e2] ta)
    (hs : starEach [e1, e2] X.env = (false, eval e1 X.env) :: starEach [e2] X.env := by rfl) (hpl : (backTo pos (starEach [e2] X.env)).any (·.1) = false := by rfl) : DI X G (.Tuple elts kk tpos) (.Call (.Name "zip" p) [e1, e2] [] pos) (dZip ta) :=
  PI.of (pi_zipG2 hg hm ha hs hpl) fun σ H R ⟨env, h, Q', g, er, hr, q, fin⟩ => ⟨env, h, _, g, er, hr, q, fun vs H1 ds h1 k r1 p1 q1 => by
    obtain ⟨d, d2, v, v2, rfl, rfl, p2, p3, q2⟩ := twoD_of (X := X) q1 p1
    have any : zipAny d d2 h1 (fun items chk => Q' items chk h1) → ∃ (s1 s2 : Src) (l1 l2 : List V), [v, v2] = [s1.v, s2.v] ∧ SrcLs X.K H1 s1 l1 ∧ SrcLs X.K H1 s2 l2 ∧ R (It2 X.K s1 s2) H1 := fun q3 => by
      obtain ⟨s1, d1, c1, rfl, L1, q4, k1⟩ := asIt_src q3 p2 r1
      obtain ⟨s2, e2, c2, rfl, L2, q5, k2⟩ := asIt_src q4 p3 r1
      obtain ⟨l1, w1, _⟩ := L1.at_ H1 h1 Gr.refl r1 k1
      obtain ⟨l2, w2, _⟩ := L2.at_ H1 h1 Gr.refl r1 k2
      exact ⟨s1, s2, l1, l2, rfl, w1, w2, fin _ H1 _ _ h1 k r1 (it_zipG2 L1 L2) q5⟩
    cases d with
    | tup xs =>
      cases d2 with
      | tup ys =>
        unfold Rp at p2 p3
        obtain ⟨a, us, rfl, s, l⟩ := p2
        obtain ⟨b, ws, rfl, t, m⟩ := p3
        exact ⟨.tup a, .tup b, us, ws, rfl, s, t, fin _ H1 _ _ h1 k r1 ((it_zipG2 (s1 := .tup a) (s2 := .tup b) (c1 := fun _ => True) (c2 := fun _ => True) ⟨fun H h g _ _ => ⟨us, g.tk.1 _ _ s, RpL.mono g _ _ l⟩⟩ ⟨fun H h g _ _ => ⟨ws, g.tk.1 _ _ t, RpL.mono g _ _ m⟩⟩).imp fun _ _ => ⟨trivial, trivial⟩) q2⟩
      | _ => exact any q2
    | _ => exact any q2⟩
theorem di_zip3 (hg : Gl X "zip") (hm : X.mg "zip" = none) (ha : DA X G [e1, e2, e3] ta)
    (hs : starEach [e1, e2, e3] X.env = (false, eval e1 X.env) :: starEach [e2, e3] X.env := by rfl) (hpl : (backTo pos (starEach [e2, e3] X.env)).any (·.1) = false := by rfl) : DI X G (.Tuple elts kk tpos) (.Call (.Name "zip" p) [e1, e2, e3] [] pos) (dZip3 ta) :=
  PI.of (pi_zipG3 hg hm ha hs hpl) fun σ H R ⟨env, h, Q', g, er, hr, q, fin⟩ => ⟨env, h, _, g, er, hr, q, fun vs H1 ds h1 k r1 p1 q1 => by
    match ds, q1, p1 with
    | [d, d2, d3], q1, p1 =>
      obtain ⟨v, v2, v3, rfl, p2, p3, p4⟩ := p1.three
      obtain ⟨s1, d1, c1, rfl, L1, q4, k1⟩ := asIt_src (show zip3Of d d2 d3 h1 (fun items chk => Q' items chk h1) from q1) p2 r1
      obtain ⟨s2, e2, c2, rfl, L2, q5, k2⟩ := asIt_src q4 p3 r1
      obtain ⟨s3, f2, c3, rfl, L3, q6, k3⟩ := asIt_src q5 p4 r1
      obtain ⟨l1, w1, _⟩ := L1.at_ H1 h1 Gr.refl r1 k1
      obtain ⟨l2, w2, _⟩ := L2.at_ H1 h1 Gr.refl r1 k2
      obtain ⟨l3, w3, _⟩ := L3.at_ H1 h1 Gr.refl r1 k3
      exact ⟨s1, s2, s3, l1, l2, l3, rfl, w1, w2, w3, fin _ H1 _ _ h1 k r1 (it_zipG3 L1 L2 L3) q6⟩
    | [], q1, _ => exact q1.elim
    | [_], q1, _ => exact q1.elim
    | [_, _], q1, _ => exact q1.elim
    | _ :: _ :: _ :: _ :: _, q1, _ => exact q1.elim⟩
end
end DL
set_option Elab.async false
set_option linter.all false
set_option maxRecDepth 100000
set_option maxHeartbeats 4000000
namespace DL
open PySem PySem.Spec PyProof.Rows L2
/-! ### str of a tuple of figures (or of tuples of them): some text, whatever is under way -/
/-- repr of a value: some text of at most N signs -/
def ReprB (prog : Program) (w : World) (h₀ : Heap) (d : Nat) (x : Value) (N : Nat) : Prop :=
  ∀ (b : Nat), b + N ≤ sizeLine → ∀ (A : Around) (E : Value → Shared → Prop) (s : Shared) (Q : Str → Shared → Prop), A.units + d < cLine → s.heap = h₀ →
    (∀ (t : Str) tk, t.length ≤ N → Q t { s with toks := tk }) → wpAny (model prog w) A (pyReprUnder b x) Q E s
theorem ReprB.mono {prog : Program} {w : World} {h₀ : Heap} {d d' : Nat} {x : Value} {N N' : Nat} (r : ReprB prog w h₀ d x N) (hd : d ≤ d') (hN : N ≤ N') : ReprB prog w h₀ d' x N' :=
  fun b hb A E s Q hu hs h => r b (by omega) A E s Q (by omega) hs fun t tk ht => h t tk (by omega)
theorem fig_len1 : ∀ n, n < 10 → (Str.ofString (toString ((n : Nat) : Int))).length = 1 := by decide +kernel
theorem fig_log : ∀ n, n < 10 → ((n : Nat) : Int).natAbs.log2 < 1920 := by decide +kernel
theorem ReprB.int {prog : Program} {w : World} {h₀ : Heap} {d : Nat} {i : Int} (t : Tok) (hi : 0 ≤ i ∧ i < 10) : ReprB prog w h₀ d (.int i t) 1 := by
  obtain ⟨n, rfl⟩ := Int.eq_ofNat_of_zero_le hi.1
  have hn : n < 10 := by omega
  intro b hb A E s Q _ _ h
  have hl := fig_len1 n hn
  exact ReprIs.int t (fig_log n hn) b (by rw [show (((toString ((n : Nat) : Int)) : String) : Str).length = 1 from hl]; exact hb) A E s Q fun tk => h _ tk (Nat.le_of_eq hl)
section
variable {prog : Program} {w : World}
theorem reprB_fold {A : Around} {E : Value → Shared → Prop} {h₀ : Heap} {d N : Nat} (hu : A.units + d < cLine) : ∀ (l : List Value) (acc : Array Str) (n : Nat) (s : Shared) (Q : (Array Str × Nat) → Shared → Prop), (∀ x ∈ l, ReprB prog w h₀ d x N) → n + l.length * (N + 2) ≤ sizeLine → s.heap = h₀ →
    (∀ (ts : List Str) m tk, ts.length = l.length → (∀ t ∈ ts, t.length ≤ N) → Q ⟨acc ++ ts.toArray, m⟩ { s with toks := tk }) → wpAny (model prog w) A (forIn l (⟨acc, n⟩ : (Array Str × Nat)) tupBody) Q E s
  | [], acc, n, s, Q, _, _, _, h => by
    have h0 := h [] n s.toks rfl (fun _ z => nomatch z)
    simp only [List.forIn_nil]
    exact wpAny_pure (by simpa using h0)
  | x :: l, acc, n, s, Q, hT, hn, hs, h => by
    rw [List.length_cons, Nat.succ_mul] at hn
    rw [List.forIn_cons]
    refine wpAny_bind (wpAny_bind (hT x List.mem_cons_self (n + 1) (by omega) _ _ _ _ hu hs fun t tk ht => wpAny_pure ?_))
    refine reprB_fold hu l (acc.push t) (n + (t.length + 2)) _ Q (fun y hy => hT y (List.mem_cons_of_mem _ hy)) (by omega) hs fun ts m tk' e1 e2 => ?_
    have h1 := h (t :: ts) m tk' (by simp [e1]) fun z hz => by
      rcases List.mem_cons.mp hz with rfl | hz
      · exact ht
      · exact e2 z hz
    simpa using h1
theorem piled_le {N : Nat} : ∀ ts : List Str, (∀ t ∈ ts, t.length ≤ N) → piled ts ≤ ts.length * (N + 2)
  | [], _ => by simp [piled]
  | t :: ts, h => by
    have h1 := h t List.mem_cons_self
    have h2 := piled_le ts fun z hz => h z (List.mem_cons_of_mem _ hz)
    rw [piled_cons, List.length_cons, Nat.succ_mul]
    omega
theorem reprB_rest {A : Around} {E : Value → Shared → Prop} {s : Shared} {a : Addr} {o : Obj} {items : Array Value} {n b d N : Nat} {Q : Fin → Shared → Prop} (ha : s.heap.get? a = some o) (hd : o.data = .seq items n)
    (hT : ∀ x ∈ items.toList, ReprB prog w s.heap d x N) (hu : A.units + d < cLine) (hsz : b + items.size * (N + 2) + 5 ≤ sizeLine)
    (h : ∀ (t : Str) u tk, t.length ≤ items.size * (N + 2) + 5 → Q (.done (.ret (.str t u))) { s with toks := tk }) : wpAny (model prog w) A (tupleReprRest b (.ref a)) Q E s := by
  unfold tupleReprRest Builtin.Tuple.tupleItemsOf
  refine wpAny_bind (wpAny_bind (wpAny_seqItems ha hd (wpAny_pure ?_)))
  rw [← Array.forIn_toList]
  refine wpAny_bind (reprB_fold hu _ _ _ _ _ hT (by rw [Array.length_toList]; omega) rfl fun ts m tk e1 e2 => ?_)
  have hlen : ts.length = items.size := by simpa using e1
  have ht : (tupleText ts).length ≤ items.size * (N + 2) + 5 := by
    have := fmt_text ts
    have h2 := piled_le ts e2
    rw [hlen] at h2
    omega
  have et : ("(" : Str) ++ Str.join ", " ((#[] : Array Str) ++ ts.toArray).toList ++ (if items.size == 1 then ",)" else ")" : String) = tupleText ts := by simp [tupleText, hlen]
  refine wpAny_bind (wpAny_mkStr (wpAny_pure ?_) (by rw [et]; omega))
  rw [et]
  exact h _ tk (tk + 1) ht
theorem reprB_at {A : Around} {E : Value → Shared → Prop} {s : Shared} {a : Addr} {o : Obj} {items : Array Value} {n b d N : Nat} {Q : Fin → Shared → Prop} (ha : s.heap.get? a = some o) (hd : o.data = .seq items n)
    (hT : ∀ x ∈ items.toList, ReprB prog w s.heap d x N) (hu : A.units + d < cLine) (hsz : b + (items.size * (N + 2) + 5) ≤ sizeLine)
    (h : ∀ (t : Str) u tk, t.length ≤ items.size * (N + 2) + 5 → Q (.done (.ret (.str t u))) { s with toks := tk }) : wpAny (model prog w) A (Builtin.tupleReprAt b ⟨[.ref a], []⟩) Q E s := by
  rw [tuple_repr_tree]
  refine wpAny_bind (fmt_underWay fun c => ?_)
  cases c with
  | true =>
    refine PySem.W.KFB.if_so rfl ?_
    refine wpAny_bind (wpAny_rule ?_)
    refine wpAny_bind (wpAny_mkStr (wpAny_pure ?_) (by decide +kernel))
    exact h "(...)" _ _ (Nat.le_trans fmt_way (Nat.le_add_left _ _))
  | false =>
    refine PySem.W.KFB.if_not rfl ?_
    exact reprB_rest ha hd hT hu (by omega) h
theorem ReprB.tuple {h₀ : Heap} {a : Addr} {o : Obj} {items : Array Value} {n d N : Nat} (ha : h₀.get? a = some o) (hc : o.cls = .type "tuple") (hd : o.data = .seq items n)
    (hT : ∀ x ∈ items.toList, ReprB prog w h₀ d x N) : ReprB prog w h₀ (d + 1) (.ref a) (items.size * (N + 2) + 5) := by
  intro b hb A E s Q hu hs h
  subst hs
  refine wpAny_pyReprUnder_ref (by omega) (wpAny_pyReprObjUnder_twin (twin := "tuple.__repr__.under") ⟨o, ha, hc⟩ F.slot_tuple_repr rfl (by omega)
    (call_twin_own (F.quiet_tuple_repr_under _) F.entry_tuple_repr_under F.check_tuple_repr_under ⟨o, ha, hc⟩ F.slot_tuple_repr (F.args_tuple_repr_1 _) (wpOwn_of_wpAny ?_)))
  exact reprB_at ha hd hT (by rw [units_under_tuple_repr_under]; omega) hb fun t u tk ht => ⟨⟨_, _, rfl⟩, _, _, rfl, h t tk ht⟩
theorem reprB_call {A : Around} {E : Value → Shared → Prop} {s : Shared} {a : Addr} {o : Obj} {items : Array Value} {n d N : Nat} {Q : Value → Shared → Prop} (ha : s.heap.get? a = some o) (hc : o.cls = .type "tuple") (hd : o.data = .seq items n)
    (hT : ∀ x ∈ items.toList, ReprB prog w s.heap d x N) (hu : A.units + (d + 1) < cLine) (hsz : items.size * (N + 2) + 5 ≤ sizeLine)
    (h : ∀ (t : Str) u tk, Q (.str t u) { s with toks := tk }) : wpAny (model prog w) A (call (.builtin "tuple.__repr__") [.ref a]) Q E s :=
  wpAny_call (codeAny_call_builtin_own (Code.quiet_builtin _ (by decide +kernel)) F.entry_tuple_repr (F.slot_tuple_repr.check _ _ _ _ _ _ _ _ ⟨o, ha, hc⟩ (F.args_tuple_repr_1 _)
    (wpOwn_of_wpAny (reprB_at (b := 0) ha hd hT (by rw [units_under_tuple_repr]; omega) (by omega) fun t u tk _ => h t u tk))))
theorem strB {A : Around} {E : Value → Shared → Prop} {s : Shared} {a : Addr} {o : Obj} {items : Array Value} {n d N : Nat} {Q : Value → Shared → Prop} (ha : s.heap.get? a = some o) (hc : o.cls = .type "tuple") (hd : o.data = .seq items n)
    (hT : ∀ (prog : Program) (w : World), ∀ x ∈ items.toList, ReprB prog w s.heap d x N) (hu : A.units + (d + 5) < cLine) (hsz : items.size * (N + 2) + 5 ≤ sizeLine)
    (h : ∀ (t : Str) u tk, Q (.str t u) { s with toks := tk }) : wpAny (model prog w) A (call (.type "str") [.ref a]) Q E s :=
  callType_new F.called_str (by decide) (F.typeCall_str_1 _) (F.newCall_str_1 _) (fun obj => F.args_object_init_2 obj _) F.entry_str_new
    (meets_str_new (S := fun A' R s' => A'.units + (d + 4) < cLine ∧ s'.heap = s.heap ∧ ∀ (t : Str) u tk, R (.ok (.ret (.str t u))) { s' with toks := tk })
      fun prog' w' A' R s' h => by
        obtain ⟨h1, h2, h3⟩ := h
        exact wpAny_strOf_slot (A := A'.in1) (T := "tuple") (idr := "tuple.__repr__") rfl (by show A'.units + 1 + 1 < cLine; omega) ⟨o, by rw [h2]; exact ha, hc⟩ F.slot_tuple_str F.slot_tuple_repr
          (reprB_call (A := A'.in1.in1) (by rw [h2]; exact ha) hc hd (by rw [h2]; exact hT _ _) (by show A'.units + 1 + 1 + (d + 1) < cLine; omega) hsz fun t u tk => ⟨t, u, rfl, h3 t u tk⟩))
    ⟨by show A.units + 1 + (d + 4) < cLine; omega, rfl, fun t u tk => ⟨typeIs_str _ _ _, h t u tk⟩⟩
end
/-- a figure -/
def figB : D → Bool
  | .int i => decide (0 ≤ i ∧ i < 10)
  | _ => false
/-- a figure, or a tuple of at most ten -/
def flatB : D → Bool
  | .tup ds => decide (ds.length ≤ 10) && ds.all figB
  | d => figB d
section
variable {X : Cx} {pins : List (Addr × Obj)} {σ : L2.St} {H : Hp} {s : Shared}
theorem reprB_fig {prog : Program} {w : World} {d : D} {v : V} {u : Value} (p : Rp X.K H d v) (r : RelV v u) (f : figB d = true) : ReprB prog w s.heap 0 u 1 := by
  cases d with
  | int i =>
    unfold Rp at p
    subst p
    obtain ⟨t, rfl⟩ := r
    exact ReprB.int t (of_decide_eq_true f)
  | _ => exact nomatch f
theorem RpL.len {K : PySem.W.Frag} {H : Hp} : ∀ {ds : List D} {vs : List V}, RpL K H ds vs → vs.length = ds.length
  | [], vs, h => by unfold RpL at h; subst h; rfl
  | d :: ds, vs, h => by
    unfold RpL at h
    obtain ⟨v, t, rfl, _, l⟩ := h
    rw [List.length_cons, List.length_cons, l.len]
theorem reprB_figs {prog : Program} {w : World} {P : D → Prop} {d N : Nat} (hP : ∀ e v u, P e → Rp X.K H e v → RelV v u → ReprB prog w s.heap d u N) : ∀ {ds : List D} {vs : List V} {us : List Value}, RpL X.K H ds vs → Vals vs us → (∀ e ∈ ds, P e) → ∀ u ∈ us, ReprB prog w s.heap d u N
  | [], vs, us, l, r, _ => by
    unfold RpL at l
    subst l
    cases r
    exact fun _ z => nomatch z
  | e :: ds, vs, us, l, r, f => by
    unfold RpL at l
    obtain ⟨v, t, rfl, p, l⟩ := l
    cases r with
    | cons r1 r2 =>
      intro u hu
      rcases List.mem_cons.mp hu with rfl | hu
      · exact hP e v _ (f e List.mem_cons_self) p r1
      · exact reprB_figs hP l r2 (fun e he => f e (List.mem_cons_of_mem _ he)) u hu
theorem vals_len : ∀ {vs : List V} {us : List Value}, Vals vs us → us.length = vs.length
  | _, _, .nil => rfl
  | _, _, .cons _ r => by rw [List.length_cons, List.length_cons, vals_len r]
theorem reprB_flat {prog : Program} {w : World} (I : Inv X pins σ H s) {d : D} {v : V} {u : Value} (p : Rp X.K H d v) (r : RelV v u) (f : flatB d = true) : ReprB prog w s.heap 1 u 35 := by
  cases d with
  | tup ds =>
    unfold Rp at p
    obtain ⟨a, vs, rfl, hq, l⟩ := p
    cases r
    obtain ⟨its, rv, ⟨o, ho, hcl, n, hd⟩, _⟩ := I.tuple hq
    unfold flatB at f
    rw [Bool.and_eq_true] at f
    have hl := of_decide_eq_true f.1
    have hf : ∀ e ∈ ds, figB e = true := List.all_eq_true.mp f.2
    have e1 : its.toArray.size = ds.length := by rw [List.size_toArray, vals_len rv, l.len]
    refine (ReprB.tuple (N := 1) (d := 0) ho hcl hd (reprB_figs (P := fun e => figB e = true) (fun e v u f p r => reprB_fig p r f) l rv hf)).mono (by omega) (by omega)
  | int i => exact (reprB_fig p r f).mono (by omega) (by omega)
  | _ => exact nomatch f
theorem strB_tup (I : Inv X pins σ H s) {ds : List D} {v : V} {u : Value} {Q : VK} (hu : X.A.units + 64 < cLine) (p : Rp X.K H (.tup ds) v) (r : RelV v u) (hl : ds.length ≤ 10) (f : ds.all flatB = true) (q : ∀ m : Str, Q (.str m) H) :
    wpAny (model X.prog X.w) X.A (PySem.call (.type "str") [u]) (EP X pins σ Q) X.xe s := by
  unfold Rp at p
  obtain ⟨a, vs, rfl, hq, l⟩ := p
  cases r
  obtain ⟨its, rv, ⟨o, ho, hcl, n, hd⟩, _⟩ := I.tuple hq
  have hf : ∀ e ∈ ds, flatB e = true := List.all_eq_true.mp f
  have e1 : its.toArray.size = ds.length := by rw [List.size_toArray, vals_len rv, l.len]
  refine strB (d := 1) (N := 35) ho hcl hd (fun prog w => reprB_figs (P := fun e => flatB e = true) (fun e v u f p r => reprB_flat I p r f) l rv hf) (by omega) (by rw [e1]; exact Nat.le_trans (show ds.length * (35 + 2) + 5 ≤ 375 by omega) (by decide)) fun t u tk => ⟨.str t, H, I.tok _, ⟨u, rfl⟩, q t⟩
end
end DL
set_option Elab.async false
set_option linter.all false
set_option maxRecDepth 100000
set_option maxHeartbeats 4000000
namespace DL
open PySem PySem.Spec PyProof.Rows L2
/-! ### xs.count(y), xs.index(y) of data -/
def rCountK (K : PySem.W.Frag) : V → List V → Hp → VK → Prop := fun x xs H Q => ∃ (a : Addr) (y : V) (d : PyData) (ds : List PyData), x = V.ref a ∧ xs = [y] ∧ Dp K H (V.ref a) (.list ds) ∧ Dp K H y d ∧
  SeqAt.shaped (.list ds) = true ∧ SeqAt.shaped d = true ∧ Q (.int ((ds.countP fun z => PyData.eqv z d : Nat) : Int)) H
theorem countP_map' {α β : Type} {f : α → β} {p : β → Bool} : ∀ l : List α, (l.map f).countP p = l.countP fun x => p (f x)
  | [] => rfl
  | a :: l => by rw [List.map_cons, List.countP_cons, List.countP_cons, countP_map' l]
theorem mt_countD {X : Cx} (hu : X.A.units + 65 < cLine) : MtR X "list.count" (rCountK X.K) := by
  intro pins s σ H x xs v us Q I rx rxs h
  obtain ⟨a, y, d, ds, rfl, rfl, hl, hy, sl, sd, q⟩ := h
  cases rx
  cases rxs with
  | cons ry rt =>
    rename_i uy ut
    cases rt
    obtain ⟨bs, r1⟩ := Dp.reads I d y uy hy ry
    have hxs : PyData.canLayAll0 ds = true := SeqAt.canLay_of_shaped sl
    have hroom : X.A.units + 1 + min (PyData.depthAll ds) d.depth < cLine := room_in_shaped sd hu
    cases hl with
    | lst hs ha =>
      obtain ⟨its, rv, ⟨⟨cls, dd, data, sls⟩, n, ho, hc, hdn, hdt⟩, hlen⟩ := I.list hs
      simp only at hc hdt
      subst hc hdt
      obtain ⟨as, h4⟩ := Dp.readsAll I ds _ its ha rv
      have hmap : its.map (SeqAt.readOf s.heap) = ds := SeqAt.readsAll_map ds its as hxs h4
      refine call_meets PySem.F.slot_list_count ⟨_, ho, rfl⟩ PySem.F.entry_list_count (PySem.F.args_list_count_2 _ _)
        (SeqAt.list_countAt a its.toArray n dd sls uy (fun u => PyData.eqv (SeqAt.readOf s.heap u) d)) ⟨ho, SeqAt.items_eqAt (vs := its.toArray) (show ReadsAll s.heap its.toArray.toList ds as from h4) r1 hxs (SeqAt.canLay_of_shaped sd) hroom, ?_⟩
      refine ⟨.int _, H, I.tok _, ⟨s.toks, ?_⟩, q⟩
      have e : its.toArray.toList.countP (fun u => PyData.eqv (SeqAt.readOf s.heap u) d) = ds.countP fun z => PyData.eqv z d := by
        rw [← hmap, countP_map']
      rw [e]
def rCntD : DRM := fun o ds h Q => oneD ds fun d => asLl o h fun xs => ∃ p ps, Dd h d p ∧ DdL h xs ps ∧ SeqAt.shaped p = true ∧ SeqAt.shaped (.list ps) = true ∧ Q (.int ((ps.countP fun z => PyData.eqv z p : Nat) : Int)) h
def rIdxD : DRM := fun o ds h Q => oneD ds fun d => asLl o h fun xs => ∃ p ps j z, Dd h d p ∧ DdL h xs ps ∧ SeqAt.shaped p = true ∧ SeqAt.shaped (.list ps) = true ∧ ps[j]? = some z ∧ PyData.eqv z p = true ∧ (∀ (m : Nat) (z' : PyData), m < j → ps[m]? = some z' → PyData.eqv z' p = false) ∧ Q (.int ((j : Nat) : Int)) h
section
variable {X : Cx}
theorem d_count (hu : X.A.units + 65 < cLine) : MtR X "list.count" (lM X.K X.mg rCntD) := by
  intro pins s σ H x vs v us Q I rx rs ⟨o, ds, h, Q', hr, po, l, q, fin⟩
  obtain ⟨d, w, rfl, rfl, pw, q⟩ := oneD_of q l
  obtain ⟨a, xs, ws, rfl, f, lx, p, ps, d1, d2, s1, s2, q⟩ := asLl_of q po hr
  exact mt_countD hu pins s σ H _ _ v us Q I rx rs ⟨a, w, p, ps, rfl, rfl, .lst (.inl f) (d2.dp hr _ _ _ lx), d1.dp hr _ _ _ pw, s2, s1, fin _ H (.int _) h Gr.refl hr (by unfold Rp; rfl) q⟩
theorem d_index (hu : X.A.units + 65 < cLine) : MtR X "list.index" (lM X.K X.mg rIdxD) := by
  intro pins s σ H x vs v us Q I rx rs ⟨o, ds, h, Q', hr, po, l, q, fin⟩
  obtain ⟨d, w, rfl, rfl, pw, q⟩ := oneD_of q l
  obtain ⟨a, xs, ws, rfl, f, lx, p, ps, j, z, d1, d2, s1, s2, e1, e2, e3, q⟩ := asLl_of q po hr
  exact mt_indexD hu pins s σ H _ _ v us Q I rx rs ⟨a, w, p, ps, j, z, rfl, rfl, .lst (.inl f) (d2.dp hr _ _ _ lx), d1.dp hr _ _ _ pw, s2, s1, e1, e2, e3, fin _ H (.int _) h Gr.refl hr (by unfold Rp; rfl) q⟩
def rPopAtD : DRM := fun o ds h Q => oneD ds fun d => rcvL o h fun a xs => asI d fun i => ∃ k, (-(2 ^ 63) ≤ i ∧ i < 2 ^ 63) ∧ seqIndex? i xs.length = some k ∧ optAt (xs[k]?) fun d => Q d (up h a (.lst (xs.eraseIdx k)))
theorem RpL.erase {K : PySem.W.Frag} {H : Hp} : ∀ {ds : List D} {vs : List V} (k : Nat), RpL K H ds vs → RpL K H (ds.eraseIdx k) (vs.eraseIdx k)
  | [], vs, k, r => by unfold RpL at r; subst r; exact RpL.nil
  | d :: ds, vs, k, r => by
    unfold RpL at r
    obtain ⟨v, t, rfl, q, l⟩ := r
    cases k with
    | zero => exact l
    | succ k => exact RpL.cons q (RpL.erase k l)
theorem d_popAt : MtR X "list.pop" (lM X.K X.mg rPopAtD) := by
  intro pins s σ H x vs v us Q I rx rs ⟨o, ds, h, Q', hr, po, l, q, fin⟩
  obtain ⟨d, w, rfl, rfl, pw, q⟩ := oneD_of q l
  obtain ⟨a, xs, ws, rfl, rfl, e, f, lx, q⟩ := rcvL_of q po hr
  obtain ⟨i, rfl, rfl, k, ⟨b1, b2⟩, hk, q⟩ := asI_of q pw
  obtain ⟨d, ed, q3⟩ := optAt_of q
  obtain ⟨w, ew, pw⟩ := lx.get ed
  obtain ⟨kk, r⟩ := wr (ds' := xs.eraseIdx k) (vs' := ws.eraseIdx k) hr e f (lx.erase k)
  exact mt_popAt pins s σ H _ _ v us Q I rx rs ⟨a, ws, i, k, w, rfl, rfl, f, b1, b2, by rw [lx.length]; exact hk, ew, fin _ _ d _ kk r (Rp.mono kk _ _ pw) q3⟩
def rInsD : DRM := fun o ds h Q => twoD ds fun d e => rcvL o h fun a xs => asI d fun i => xs.length < sizeLine ∧ 0 ≤ i ∧ i < 2 ^ 63 ∧ Q .non (up h a (.lst (xs.take i.toNat ++ [e] ++ xs.drop i.toNat)))
theorem d_insert : MtR X "list.insert" (lM X.K X.mg rInsD) := by
  intro pins s σ H x vs v us Q I rx rs ⟨o, ds, h, Q', hr, po, l, q, fin⟩
  obtain ⟨d, e', w, w', rfl, rfl, pw, pw', q⟩ := twoD_of q l
  obtain ⟨a, xs, ws, rfl, rfl, e, f, lx, q⟩ := rcvL_of q po hr
  obtain ⟨i, rfl, rfl, b1, b2, b3, q⟩ := asI_of q pw
  obtain ⟨kk, r⟩ := wr (ds' := xs.take i.toNat ++ [e'] ++ xs.drop i.toNat) (vs' := ws.take i.toNat ++ [w'] ++ ws.drop i.toNat) hr e f (((lx.take _).append (RpL.cons pw' RpL.nil)).append (lx.drop _))
  exact mt_insert pins s σ H _ _ v us Q I rx rs ⟨a, ws, i, w', rfl, rfl, f, by rw [lx.length]; exact b1, b2, b3, fin _ _ .non _ kk r (by unfold Rp; rfl) q⟩
/-! ### int(x), str(x), max(a, b), min(a, b) -/
def intOf : D → DH → DK → Prop
  | .int i, h, Q => Q (.int i) h
  | .bl b, h, Q => Q (.int (if b then 1 else 0)) h
  | .str x, h, Q => ∃ n, PySem.intText? x = some n ∧ x.length ≤ 640 ∧ Q (.int n) h
  | _, _, _ => False
def rIntOf : DRC := fun ds h Q => oneD ds fun d => intOf d h Q
theorem d_intOf : DCallR X (.type "int") rIntOf := by
  intro pins s σ H vs us Q I rv ⟨ds, h, Q', hr, l, q, fin⟩
  obtain ⟨d, v, rfl, rfl, p, q⟩ := oneD_of q l
  cases d with
  | int i =>
    unfold Rp at p
    subst p
    exact call_int1 pins s σ H _ us Q I rv (.inl ⟨i, rfl, fin _ H (.int i) h Gr.refl hr (by unfold Rp; rfl) q⟩)
  | bl b =>
    unfold Rp at p
    subst p
    exact call_int1 pins s σ H _ us Q I rv (.inr ⟨b, rfl, fin _ H (.int _) h Gr.refl hr (by unfold Rp; rfl) q⟩)
  | str x =>
    unfold Rp at p
    subst p
    obtain ⟨n, e1, e2, q⟩ := q
    exact call_int_str pins s σ H _ us Q I rv ⟨x, n, rfl, e1, e2, fin _ H (.int n) h Gr.refl hr (by unfold Rp; rfl) q⟩
  | _ => exact q.elim
def strOf : D → DH → DK → Prop
  | .int i, h, Q => i.natAbs.log2 < 1920 ∧ Q (.str (toString i)) h
  | .str x, h, Q => Q (.str x) h
  | .tup ds, h, Q => (ds.length ≤ 10 ∧ ds.all flatB = true) ∧ ∀ m : Str, Q (.str m) h
  | _, _, _ => False
def rStrOf : DRC := fun ds h Q => oneD ds fun d => strOf d h Q
theorem d_strOf (hu : X.A.units + 65 < cLine) : DCallR X (.type "str") rStrOf := by
  intro pins s σ H vs us Q I rv ⟨ds, h, Q', hr, l, q, fin⟩
  obtain ⟨d, v, rfl, rfl, p, q⟩ := oneD_of q l
  cases d with
  | int i =>
    unfold Rp at p
    subst p
    exact call_str_int pins s σ H _ us Q I rv ⟨i, rfl, q.1, fin _ H (.str _) h Gr.refl hr (by unfold Rp; rfl) q.2⟩
  | str x =>
    unfold Rp at p
    subst p
    exact SkE.call_str_str pins s σ H _ us Q I rv ⟨x, rfl, fin _ H (.str _) h Gr.refl hr (by unfold Rp; rfl) q⟩
  | tup ds =>
    obtain ⟨u, rfl, ru⟩ := rv.one
    obtain ⟨⟨hl, hf⟩, q⟩ := q
    exact strB_tup I (by omega) p ru hl hf fun m => fin _ H (.str _) h Gr.refl hr (by unfold Rp; rfl) (q m)
  | _ => exact q.elim
def rMax2 : DRC := fun ds h Q => twoD ds fun d e => asI d fun i => asI e fun j => Q (.int (if j > i then j else i)) h
def rMin2 : DRC := fun ds h Q => twoD ds fun d e => asI d fun i => asI e fun j => Q (.int (if j < i then j else i)) h
theorem d_max2 (hc : X.calm = true) : DCallR X (.builtin "max") rMax2 := by
  intro pins s σ H vs us Q I rv ⟨ds, h, Q', hr, l, q, fin⟩
  obtain ⟨d, e, v, w, rfl, rfl, p1, p2, q⟩ := twoD_of q l
  obtain ⟨i, rfl, rfl, q⟩ := asI_of q p1
  obtain ⟨j, rfl, rfl, q⟩ := asI_of (d := e) q p2
  exact call_max2 hc pins s σ H _ us Q I rv ⟨i, j, rfl, fin _ H (.int _) h Gr.refl hr (by unfold Rp; rfl) q⟩
theorem d_min2 (hc : X.calm = true) : DCallR X (.builtin "min") rMin2 := by
  intro pins s σ H vs us Q I rv ⟨ds, h, Q', hr, l, q, fin⟩
  obtain ⟨d, e, v, w, rfl, rfl, p1, p2, q⟩ := twoD_of q l
  obtain ⟨i, rfl, rfl, q⟩ := asI_of q p1
  obtain ⟨j, rfl, rfl, q⟩ := asI_of (d := e) q p2
  exact call_min2 hc pins s σ H _ us Q I rv ⟨i, j, rfl, fin _ H (.int _) h Gr.refl hr (by unfold Rp; rfl) q⟩
/-! ### texts: sep.join(xs), s.split(sep), s.upper() -/
def asS : D → (Str → Prop) → Prop
  | .str x, k => k x
  | _, _ => False
theorem asS_of {K : PySem.W.Frag} {H : Hp} {d : D} {v : V} {k : Str → Prop} (q : asS d k) (p : Rp K H d v) : ∃ b, v = .str b ∧ d = .str b ∧ k b := by
  cases d with
  | str b => unfold Rp at p; exact ⟨b, p, rfl, q⟩
  | _ => exact q.elim
def allS? : List D → Option (List Str)
  | [] => some []
  | .str x :: r => (allS? r).map (x :: ·)
  | _ => none
theorem allS_of : ∀ {ds : List D} {ys : List Str}, allS? ds = some ys → ds = ys.map D.str
  | [], ys, h => by cases h; rfl
  | d :: r, ys, h => by
    cases d with
    | str x =>
      cases e : allS? r with
      | none => simp [allS?, e] at h
      | some zs =>
        simp [allS?, e] at h
        subst h
        rw [allS_of e]; rfl
    | _ => simp [allS?] at h
variable {G : Option (Hp × DH)} {o e : Expr} {to te : DTE} {tq : DTA} {apos pos : Pos}
def dJoin (to : DTE) (t : DTA) : DTE := fun env h Q => to env h fun o h1 => asS o fun a => t env h1 fun ds h2 => optAt (allS? ds) fun ys => (ys.map (·.length)).sum + ys.length * a.length ≤ 16777216 ∧ Q (.str (Txt.join a ys)) h2
theorem de_join (ho : DE X G o to) (he : DQ X G e tq) (hs : starEach [e] X.env = [(false, eval e X.env)] := by rfl) (hbase : attributeBase o "join" X.env (eval o X.env) = eval o X.env := by rfl) (hline : (apos.endLine == pos.line) = true := by rfl) :
    DE X G (.Call (.Attribute o "join" apos) [e] [] pos) (dJoin to tq) :=
  PE.of (pe_join ho he hs hbase hline) fun σ H Q ⟨env, h, Q', g, er, hr, q, fin⟩ => ⟨env, h, _, g, er, hr, q, fun v H1 d h1 k1 r1 p1 q1 => by
    obtain ⟨a, rfl, rfl, q2⟩ := asS_of q1 p1
    refine ⟨⟨a, rfl⟩, env, h1, _, g.on k1, er.mono k1, r1, q2, fun p H2 ds vs h2 k2 r2 e2 l2 q3 => ?_⟩
    obtain ⟨ys, ey, hz, q4⟩ := optAt_of q3
    have e3 := allS_of ey
    subst e3
    have e4 := RpL.strs l2
    subst e4
    exact ⟨a, p, ys, rfl, rfl, .inl (e2), hz, fin _ H2 (.str _) h2 (k1.trans k2) r2 (by unfold Rp; rfl) q4⟩⟩
def dSplit (to te : DTE) : DTE := fun env h Q => to env h fun o h1 => asS o fun a => te env h1 fun e h2 => asS e fun b => (b.length == 0) = false ∧ a.length + 2 ≤ sizeLine ∧ Q (.frz ((Txt.split a b).map D.str)) h2
theorem RpL.strsD {K : PySem.W.Frag} {H : Hp} : ∀ {ys : List Str}, RpL K H (ys.map D.str) (ys.map V.str)
  | [] => RpL.nil
  | _ :: _ => RpL.cons (by unfold Rp; rfl) RpL.strsD
theorem de_split (ho : DE X G o to) (he : DE X G e te) (hs : starEach [e] X.env = [(false, eval e X.env)] := by rfl) (hbase : attributeBase o "split" X.env (eval o X.env) = eval o X.env := by rfl) (hline : (apos.endLine == pos.line) = true := by rfl) :
    DE X G (.Call (.Attribute o "split" apos) [e] [] pos) (dSplit to te) :=
  PE.of (PE.seal (pe_split ho he hs hbase hline)) fun σ H Q ⟨env, h, Q', g, er, hr, q, fin⟩ => ⟨env, h, _, g, er, hr, q, fun v H1 d h1 k1 r1 p1 q1 => by
    obtain ⟨a, rfl, rfl, q2⟩ := asS_of q1 p1
    refine ⟨⟨a, rfl⟩, env, h1, _, g.on k1, er.mono k1, r1, q2, fun v H2 d h2 k2 r2 p2 q3 => ?_⟩
    obtain ⟨b, rfl, rfl, hb, hz, q4⟩ := asS_of q3 p2
    refine ⟨a, b, rfl, rfl, hb, hz, fun p n hp ok => ?_⟩
    obtain ⟨H3, f, k3, r3, p3⟩ := laidV r2 n (RpL.strsD (K := X.K) (H := H2) (ys := Txt.split a b)) ok
    exact ⟨H3, f, fin _ H3 _ h2 (k1.trans (k2.trans k3)) r3 p3 q4⟩⟩
def dUpper (to : DTE) : DTE := fun env h Q => to env h fun o h1 => asS o fun a => a.length ≤ 5592405 ∧ Q (.str (Txt.upper a)) h1
theorem de_upper (ho : DE X G o to) (hbase : attributeBase o "upper" X.env (eval o X.env) = eval o X.env := by rfl) (hline : (apos.endLine == pos.line) = true := by rfl) :
    DE X G (.Call (.Attribute o "upper" apos) [] [] pos) (dUpper to) :=
  PE.of (pe_upper ho hbase hline) fun σ H Q ⟨env, h, Q', g, er, hr, q, fin⟩ => ⟨env, h, _, g, er, hr, q, fun v H1 d h1 k1 r1 p1 q1 => by
    obtain ⟨a, rfl, rfl, hz, q2⟩ := asS_of q1 p1
    exact ⟨⟨a, rfl⟩, a, rfl, rfl, hz, fin _ H1 (.str _) h1 k1 r1 (by unfold Rp; rfl) q2⟩⟩
end
end DL
set_option Elab.async false
set_option linter.all false
set_option maxRecDepth 100000
set_option maxHeartbeats 4000000
namespace DL
open PySem PySem.Spec PyProof.Rows L2
/-! ### repr(x) -/
def rReprD : DRC := fun ds h Q => oneD ds fun d => ∃ p, Dd h d p ∧ SeqAt.shaped p = true ∧ p.showable = true ∧ p.shown.length ≤ sizeLine ∧ Q (.str p.shown) h
theorem d_repr {X : Cx} (hg : X.A.guards = some []) (hu : X.A.units + 66 < cLine) : DCallR X (.builtin "repr") rReprD := by
  intro pins s σ H vs us Q I rv ⟨ds, h, Q', hr, l, q, fin⟩
  obtain ⟨d, v, rfl, rfl, pv, p, dd, sh, sw, sz, q⟩ := oneD_of q l
  obtain ⟨u, rfl, ru⟩ := rv.one
  have fin2 : Q (.str p.shown) H := fin _ H (.str p.shown) h Gr.refl hr (by unfold Rp; rfl) q
  obtain ⟨as, rd⟩ := Dp.reads I p v u (dd.dp hr _ _ _ pv) ru
  have can : p.canLay0 = true := by unfold SeqAt.shaped at sh; simp at sh; exact sh.1
  have dep : p.depth ≤ 64 := by unfold SeqAt.shaped at sh; simp at sh; exact sh.2
  have deep : ∀ a, u = .ref a → wpAny (model X.prog X.w) X.A (PySem.call (.builtin "repr") [u]) (EP X pins σ Q) X.xe s := fun a e => by
    subst e
    exact repr_of_reads' rd sw (PyData.noDict_hsm (PyData.hasDict_of_canLay p can)) hg (by omega) (fun _ _ z => z) (fun h' w tk keep => ⟨.str p.shown, H, I.kept keep, ⟨w, rfl⟩, fin2⟩) sz
  have tok : ∀ t, EP X pins σ Q (.str p.shown t) { s with toks := s.toks + 1 } := fun t => ⟨.str p.shown, H, I.tok _, ⟨t, rfl⟩, fin2⟩
  cases rd with
  | none => exact PySem.P.repr_of_none (by simpa only [PyData.shown] using tok s.toks)
  | bool => exact PySem.P.repr_of_bool (by simpa only [PyData.shown] using tok s.toks)
  | int => exact PySem.P.repr_of_int (by simpa only [PyData.showable, decide_eq_true_eq] using sw) (by simpa only [PyData.shown] using tok s.toks)
  | str => exact PySem.P.repr_of_str (by simpa only [PyData.shown] using tok s.toks) (by simpa only [PyData.shown] using sz)
  | list _ _ _ _ => exact deep _ rfl
  | tuple _ _ _ _ => exact deep _ rfl
  | dict _ _ _ _ _ => exact deep _ rfl
end DL
set_option Elab.async false
set_option linter.all false
set_option maxRecDepth 100000
set_option maxHeartbeats 4000000
namespace DL
open PySem PySem.Spec PyProof.Rows L2
/-! ### instances: calls in the layer's own words, what may leave told with the slots -/
section
variable {X : Cx} {CX : CXT} {x m : Str} {e o : Expr} {es : List Expr} {ta : TE} {t : TA} {p apos pos : Pos} {k : Nat} {f C : Addr} {fd : FuncData} {ps : List Str} {sp : Sp} {E : L2.St → XK}
def tMethS2 (C : Addr) (m : Str) (sp : Sp) (E : L2.St → XK) (ta : TE) (t : TA) : TE := fun σ H Q => ta σ H fun x H1 => ∃ a dx fs, x = .ref a ∧ H1 a = some (.ins C dx fs) ∧ fs.lookup m = none ∧ t σ H1 fun vs H2 => sp (x :: vs) H2 Q (E σ)
theorem pe_methX {pl : Sem Bool} (he : PE X o ta) (c : Cls X.K C) (hm : Meth X.K C m f) (F : FnOk X.prog X.w X.K X.mg X.base CX k f fd ps sp) (hr : Room k X.A) (hb : Binds X.K fd ps []) (hx : ∀ σ, PassesAt CX X σ (E σ)) (ha : PA X (e :: es) t)
    (hst : starEach (e :: es) X.env = (false, eval e X.env) :: starEach es X.env := by rfl) (hpl : (backTo pos (starEach es X.env)).any (·.1) = false := by rfl)
    (ht : eval (.Call (.Attribute o m apos) (e :: es) [] pos) X.env = (do
      let ov ← eval o X.env
      standAt apos.atName
      let (f, first) ← holding [ov] (getMethod ov m pl)
      callWith pos f first (backTo pos (starEach (e :: es) X.env)) (backToKw pos (keywordEach [] X.env))) := by rfl) :
    PE X (.Call (.Attribute o m apos) (e :: es) [] pos) (tMethS2 C m sp E ta t) := by
  refine ⟨fun pins s σ H Q I h => ?_⟩
  refine PySem.W.methodCall_KW (pl := pl) (thn (he.run pins s σ H _ I h) fun u s1 ⟨x, H1, I1, rx, a, dx, fs, ex, ea, l, q⟩ => ?_) ht
  subst ex
  obtain rfl : u = Value.ref a := rx
  refine getmeth_ok I1 ea c hm l ?_
  refine PySem.W.callWith_K (first := [.ref a]) (h₀ := X.base) I.ok.mod.kin hm.kp (thn (ha.run pos pins s1 σ H1 _ I1 q) fun us s2 ⟨vs, H2, I2, r, q2⟩ => ⟨I2.kIn, ?_⟩) hst hpl
  exact run_fnS (us := .ref a :: us) (vs := .ref a :: vs) F hr hb (hx σ) I2 (.cons rfl r) q2
theorem pe_methX0 {pl : Sem Bool} (he : PE X o ta) (c : Cls X.K C) (hm : Meth X.K C m f) (F : FnOk X.prog X.w X.K X.mg X.base CX k f fd ps sp) (hr : Room k X.A) (hb : Binds X.K fd ps []) (hx : ∀ σ, PassesAt CX X σ (E σ))
    (ht : eval (.Call (.Attribute o m apos) [] [] pos) X.env = (do
      let ov ← eval o X.env
      standAt apos.atName
      let (f, first) ← holding [ov] (getMethod ov m pl)
      callWith pos f first (backTo pos (starEach [] X.env)) (backToKw pos (keywordEach [] X.env))) := by rfl) :
    PE X (.Call (.Attribute o m apos) [] [] pos) (tMethS2 C m sp E ta tNil) := by
  refine ⟨fun pins s σ H Q I h => ?_⟩
  refine PySem.W.methodCall_KW (pl := pl) (thn (he.run pins s σ H _ I h) fun u s1 ⟨x, H1, I1, rx, a, dx, fs, ex, ea, l, q⟩ => ?_) ht
  subst ex
  obtain rfl : u = Value.ref a := rx
  refine getmeth_ok I1 ea c hm l ?_
  exact PySem.W.callWith_K0 (first := [.ref a]) I1.kIn hm.kp (run_fnS (us := [.ref a]) (vs := [.ref a]) F hr hb (hx σ) I1 (.cons rfl .nil) q)
end
section
variable {X : Cx} {CX : CXT} {x : Str} {e : Expr} {es : List Expr} {t : TA} {p pos : Pos} {k : Nat} {f C : Addr} {fd : FuncData} {ps : List Str} {sp : Sp} {E : L2.St → XK}
def tMakeS2 (C : Addr) (sp : Sp) (E : L2.St → XK) (t : TA) : TE := fun σ H Q => t σ H fun vs H1 => ∀ x dx, H1 x = none → H1 dx = none → dx ≠ x → sp (.ref x :: vs) (upd (upd H1 dx (.own x)) x (.ins C dx [])) (fun v H2 => v = .non ∧ Q (.ref x) H2) (E σ)
theorem run_makeS {pins : List (Addr × Obj)} {σ : L2.St} {H : Hp} {s : Shared} {Q : VK} {us : List Value} {vs : List V} (M : Mk X.K C f) (F : FnOk X.prog X.w X.K X.mg X.base CX k f fd ps sp) (hr : Room (k + 1) X.A) (hb : Binds X.K fd ps [])
    (hx : PassesAt CX X σ (E σ)) (I : Inv X pins σ H s) (r : Vals vs us)
    (h : ∀ x dx, H x = none → H dx = none → dx ≠ x → sp (.ref x :: vs) (upd (upd H dx (.own x)) x (.ins C dx [])) (fun v H2 => v = .non ∧ Q (.ref x) H2) (E σ)) :
    wpAny (model X.prog X.w) X.A (call (.ref C) us) (EP X pins σ Q) X.xe s := by
  have hq := h (s.heap.objs.size + 1) s.heap.objs.size (I.hok.fresh (Nat.le_succ _)) (I.hok.fresh (Nat.le_refl _)) (Nat.ne_of_lt (Nat.lt_succ_self _))
  have I2 := Inv.made (C := C) I
  have r2 : Vals (V.ref (s.heap.objs.size + 1) :: vs) (Value.ref (s.heap.objs.size + 1) :: us) := .cons rfl r
  have hl : (Value.ref (s.heap.objs.size + 1) :: us).length = ps.length := by
    have e := r2.length
    rw [F.len _ _ _ _ hq] at e
    exact e.symm
  have b := hb _ (Value.ref (s.heap.objs.size + 1) :: us) I2.kIn (by rw [List.append_nil]; exact hl)
  rw [List.append_nil] at b
  refine wpAny_call (make_map (f := f) I.kIn M.makes M.init (beq_iff_eq.mp M.fn) (codeAny_mono (F.run _ X.stack _ _ ⟨Value.ref (s.heap.objs.size + 1) :: us, []⟩ (Value.ref (s.heap.objs.size + 1) :: us) _ _ (E σ) (hr.make C us [])
    (I2.env0.make C us []) b r2 hq) fun r s' hq' => ?_))
  cases r with
  | error e => exact hx pins _ _ e s' I2 hq'
  | ok fl =>
    cases fl with
    | ret u =>
      obtain ⟨v, H', I3, rv, ev, q3⟩ := I2.after hq'
      subst ev
      exact ⟨rv, ⟨V.ref (s.heap.objs.size + 1), H', I3, rfl, q3⟩⟩
    | next => exact False.elim hq'
    | brk => exact False.elim hq'
    | cont => exact False.elim hq'
theorem pe_makeX (M : Mk X.K C f) (F : FnOk X.prog X.w X.K X.mg X.base CX k f fd ps sp) (hr : Room (k + 1) X.A) (hg : Gl X x) (hm : X.mg x = some (.ref C)) (hb : Binds X.K fd ps []) (hx : ∀ σ, PassesAt CX X σ (E σ))
    (ha : PA X (e :: es) t) (hdb : (x == ("__debug__" : Str)) = false := by decide) (he : starEach (e :: es) X.env = (false, eval e X.env) :: starEach es X.env := by rfl) (hpl : (backTo pos (starEach es X.env)).any (·.1) = false := by rfl) :
    PE X (.Call (.Name x p) (e :: es) [] pos) (tMakeS2 C sp E t) := by
  refine ⟨fun pins s σ H Q I h => ?_⟩
  refine wpAny_Call_Name_kw (ld_glob I hg hm ?_ hdb)
  refine PySem.W.callWith_K (h₀ := X.base) I.ok.mod.kin M.kp (thn (ha.run pos pins s σ H _ I h) fun us s1 ⟨vs, H1, I1, r, q⟩ => ⟨I1.kIn, ?_⟩) he hpl
  exact run_makeS M F hr hb (hx σ) I1 r q
theorem pe_makeX0 (M : Mk X.K C f) (F : FnOk X.prog X.w X.K X.mg X.base CX k f fd ps sp) (hr : Room (k + 1) X.A) (hg : Gl X x) (hm : X.mg x = some (.ref C)) (hb : Binds X.K fd ps []) (hx : ∀ σ, PassesAt CX X σ (E σ))
    (hdb : (x == ("__debug__" : Str)) = false := by decide) : PE X (.Call (.Name x p) [] [] pos) (tMakeS2 C sp E tNil) := by
  refine ⟨fun pins s σ H Q I h => ?_⟩
  refine wpAny_Call_Name_kw (ld_glob I hg hm ?_ hdb)
  exact PySem.W.callWith_K0 I.kIn M.kp (run_makeS (us := []) M F hr hb (hx σ) I .nil h)
end
section
variable {X : Cx} {CX : CXT} {x : Str} {p pos : Pos} {k : Nat} {f : Addr} {fd : FuncData} {ps : List Str} {sp : Sp} {E : L2.St → XK}
theorem pe_callX0 (F : FnOk X.prog X.w X.K X.mg X.base CX k f fd ps sp) (hr : Room k X.A) (hg : Gl X x) (hm : X.mg x = some (.ref f)) (hk : PySem.W.keepIn X.K (.ref f) = true) (hb : Binds X.K fd ps []) (hx : ∀ σ, PassesAt CX X σ (E σ))
    (hdb : (x == ("__debug__" : Str)) = false := by decide) : PE X (.Call (.Name x p) [] [] pos) (tCallS sp E tNil) := by
  refine ⟨fun pins s σ H Q I h => ?_⟩
  refine wpAny_Call_Name_kw (ld_glob I hg hm ?_ hdb)
  exact PySem.W.callWith_K0 I.kIn hk (run_fnS (us := []) F hr hb (hx σ) I .nil h)
end
/-! ### .. upon data -/
/-- classes with their fields -/
abbrev InsT := List (Str × List Str)
def hasF (cl : InsT) (c f : Str) : Bool := match cl.lookup c with
  | some gs => gs.contains f
  | none => false
structure InsOk (K : PySem.W.Frag) (mg : Str → Option Value) (c : Str) (gs : List Str) : Prop where
  at_ : mg c = some (.ref (He.ga K c))
  cls : Cls K (He.ga K c)
  no : ∀ f ∈ gs, NoAttr K (He.ga K c) f
def refI : D → (Addr → Prop) → Prop
  | .ref a, k => k a
  | _, _ => False
def insAt : Option DO → (Str → List (Str × D) → Prop) → Prop
  | some (.ins c fs), k => k c fs
  | _, _ => False
def putD (f : Str) (v : D) : List (Str × D) → List (Str × D)
  | [] => [(f, v)]
  | (g, x) :: r => if g = f then (g, v) :: r else (g, x) :: putD f v r
section
variable {K : PySem.W.Frag} {mg : Str → Option Value} {H : Hp}
theorem refI_of {d : D} {v : V} {k : Addr → Prop} (q : refI d k) (p : Rp K H d v) : ∃ a, d = .ref a ∧ v = .ref a ∧ k a := by
  cases d with
  | ref a => unfold Rp at p; exact ⟨a, rfl, p, q⟩
  | _ => exact q.elim
theorem insAt_of {o : Option DO} {k : Str → List (Str × D) → Prop} (q : insAt o k) : ∃ c fs, o = some (.ins c fs) ∧ k c fs := by
  cases o with
  | none => exact q.elim
  | some o =>
    cases o with
    | ins c fs => exact ⟨c, fs, rfl, q⟩
    | _ => exact q.elim
theorem RpF.get : ∀ {ps : List (Str × D)} {fs : List (Str × V)} {f : Str} {d : D}, RpF K H ps fs → ps.lookup f = some d → ∃ v, fs.lookup f = some v ∧ Rp K H d v
  | [], fs, f, d, r, e => by cases e
  | p :: ps, fs, f, d, r, e => by
    unfold RpF at r
    obtain ⟨v, t, rfl, r1, r2⟩ := r
    obtain ⟨g, x⟩ := p
    rw [List.lookup_cons] at e ⊢
    cases c : f == g with
    | true => rw [c] at e; cases e; exact ⟨v, rfl, r1⟩
    | false => rw [c] at e; exact RpF.get r2 e
theorem RpF.miss : ∀ {ps : List (Str × D)} {fs : List (Str × V)} {f : Str}, RpF K H ps fs → ps.lookup f = none → fs.lookup f = none
  | [], fs, f, r, e => by unfold RpF at r; subst r; rfl
  | p :: ps, fs, f, r, e => by
    unfold RpF at r
    obtain ⟨v, t, rfl, r1, r2⟩ := r
    obtain ⟨g, x⟩ := p
    rw [List.lookup_cons] at e ⊢
    cases c : f == g with
    | true => rw [c] at e; cases e
    | false => rw [c] at e; exact RpF.miss r2 e
theorem RpF.length : ∀ {ps : List (Str × D)} {fs : List (Str × V)}, RpF K H ps fs → fs.length = ps.length
  | [], fs, r => by unfold RpF at r; subst r; rfl
  | p :: ps, fs, r => by
    unfold RpF at r
    obtain ⟨v, t, rfl, r1, r2⟩ := r
    rw [List.length_cons, List.length_cons, RpF.length r2]
theorem RpF.put {f : Str} {d : D} {v : V} (q : Rp K H d v) : ∀ {ps : List (Str × D)} {fs : List (Str × V)}, RpF K H ps fs → RpF K H (putD f d ps) (putF f v fs)
  | [], fs, r => by
    unfold RpF at r
    subst r
    unfold putD putF
    unfold RpF
    exact ⟨v, [], rfl, q, by unfold RpF; rfl⟩
  | p :: ps, fs, r => by
    unfold RpF at r
    obtain ⟨w, t, rfl, r1, r2⟩ := r
    obtain ⟨g, x⟩ := p
    unfold putD putF
    by_cases e : g = f
    · rw [if_pos e, if_pos e]
      unfold RpF
      exact ⟨v, t, rfl, q, r2⟩
    · rw [if_neg e, if_neg e]
      unfold RpF
      exact ⟨w, _, rfl, r1, RpF.put q r2⟩
theorem HR.ins {h : DH} {a : Addr} {c : Str} {fs : List (Str × D)} (r : HR K mg H h) (e : h a = some (.ins c fs)) : ∃ C dx fvs, mg c = some (.ref C) ∧ H a = some (.ins C dx fvs) ∧ RpF K H fs fvs := r a _ e
theorem hasF_ok {cl : InsT} {c f : Str} (T : ∀ p ∈ cl, InsOk K mg p.1 p.2) (e : hasF cl c f = true) : ∃ gs, InsOk K mg c gs ∧ f ∈ gs := by
  unfold hasF at e
  cases z : cl.lookup c with
  | none => rw [z] at e; cases e
  | some gs =>
    rw [z] at e
    have m : ∀ {l : InsT}, l.lookup c = some gs → (c, gs) ∈ l := fun {l} => by
      induction l with
      | nil => intro h; cases h
      | cons p l ih =>
        obtain ⟨y, w⟩ := p
        intro h
        rw [List.lookup_cons] at h
        cases q : c == y with
        | true => rw [q] at h; cases h; rw [eq_of_beq q]; exact List.mem_cons_self ..
        | false => rw [q] at h; exact List.mem_cons_of_mem _ (ih h)
    exact ⟨gs, T _ (m z), by simpa using e⟩
end
def dFldI (cl : InsT) (f : Str) (t : DTE) : DTE := fun env h Q => t env h fun d h1 => refI d fun a => insAt (h1 a) fun c fs => hasF cl c f = true ∧ optAt (fs.lookup f) fun v => Q v h1
def dSetF (cl : InsT) (f : Str) (tv to : DTE) : DTS := fun E env h => tv env h fun v h1 => to env h1 fun o h2 => refI o fun a => insAt (h2 a) fun c fs => hasF cl c f = true ∧ fs.length < 1000 ∧ E.nx env (up h2 a (.ins c (putD f v fs)))
def dMethI (cn m : Str) (S : DSp) (n : Nat) (E : DXE) (t : DTE) (ta : DTA) : DTE := fun env h Q => t env h fun d h1 => refI d fun a => insAt (h1 a) fun c fs => c = cn ∧ fs.lookup m = none ∧ ta env h1 fun ds h2 => ds.length + 1 = n ∧ S (.ref a :: ds) h2 (wk Q) (E env)
def dMakeI (cn : Str) (S : DSp) (n : Nat) (E : DXE) (ta : DTA) : DTE := fun env h Q => ta env h fun ds h1 => ds.length + 1 = n ∧ ∀ p, h1 p = none → S (.ref p :: ds) (up h1 p (.ins cn [])) (fun d h2 => d = .non ∧ Q (.ref p) h2) (E env)
section
variable {X : Cx} {G : Option (Hp × DH)} {e o : Expr} {es : List Expr} {te to : DTE} {ta : DTA} {cl : InsT} {f m cn x : Str} {p pos apos : Pos} {S : DSp} {n k : Nat} {fa : Addr} {fd : FuncData} {ps : List Str} {E : DXE}
theorem de_fldI (T : ∀ p ∈ cl, InsOk X.K X.mg p.1 p.2) (he : DE X G e te) (hb : attributeBase e f X.env (eval e X.env) = eval e X.env) : DE X G (.Attribute e f pos) (dFldI cl f te) :=
  PE.of (pe_fld he hb) fun σ H Q ⟨env, h, Q', g, er, hr, q, fin⟩ => ⟨env, h, _, g, er, hr, q, fun v H1 d h1 k1 r1 p1 q1 => by
    obtain ⟨a, rfl, rfl, q2⟩ := refI_of q1 p1
    obtain ⟨c, fs, ea, hf, q3⟩ := insAt_of q2
    obtain ⟨d, ed, q4⟩ := optAt_of q3
    obtain ⟨gs, I, mf⟩ := hasF_ok T hf
    obtain ⟨C, dx, fvs, em, eH, rf⟩ := r1.ins ea
    rw [I.at_] at em
    cases em
    obtain ⟨w, ew, pw⟩ := rf.get ed
    exact ⟨a, _, dx, fvs, w, rfl, eH, I.cls, I.no f mf, ew, fin w H1 d h1 k1 r1 pw q4⟩⟩
theorem ds_fldI {p' : Pos} (T : ∀ p ∈ cl, InsOk X.K X.mg p.1 p.2) (ho : DE X G o to) (hv : DE X G e te) (hs : swapsWith e (some (.Attribute o f p')) pos.line X.env = pure false) : DS X G (.Assign [.Attribute o f p'] e pos) (dSetF cl f te to) :=
  PS.of (ps_fld ho hv hs) fun E' σ H ⟨env, h, E2, g, er, hr, q, nx, _⟩ => ⟨env, h, _, g, er, hr, q, fun v H1 d h1 k1 r1 p1 q1 => ⟨env, h1, _, g.on k1, er.mono k1, r1, q1, fun y H2 d2 h2 k2 r2 p2 q2 => by
    obtain ⟨a, rfl, rfl, q3⟩ := refI_of q2 p2
    obtain ⟨c, fs, ea, hf, hl, q4⟩ := insAt_of q3
    obtain ⟨gs, I, mf⟩ := hasF_ok T hf
    obtain ⟨C, dx, fvs, em, eH, rf⟩ := r2.ins ea
    rw [I.at_] at em
    cases em
    have mu : Mut (H2 a) := by rw [eH]; trivial
    have k3 : Gr X.K H2 h2 (upd H2 a (.ins (He.ga X.K c) dx (putF f v fvs))) (up h2 a (.ins c (putD f d fs))) := Gr.write mu ea
    refine ⟨a, _, dx, fvs, rfl, eH, I.cls, I.no f mf, by rw [rf.length]; exact hl, nx σ _ env _ ((k1.trans k2).trans k3) (er.mono ((k1.trans k2).trans k3)) (r2.write (o := .ins c (putD f d fs)) mu ⟨_, dx, _, I.at_, upd_same, ?_⟩) q4⟩
    exact RpF.monoT k3.tk _ _ (rf.put (Rp.mono k2 _ _ p1))⟩⟩
/-- a method: its class, its def -/
def MethOk (X : Cx) (cn m : Str) (n : Nat) (S : DSp) : Prop := ∃ k f fd ps, Room k X.A ∧ X.mg cn = some (.ref (He.ga X.K cn)) ∧ Cls X.K (He.ga X.K cn) ∧ Meth X.K (He.ga X.K cn) m f ∧ Binds X.K fd ps [] ∧ FnOk X.prog X.w X.K X.mg X.base (L2.CX X.prog X.w) k f fd ps (lSp X.K X.mg n S)
theorem meth_fin {P : Program} {w : World} {H H1 H2 : Hp} {h h1 h2 : DH} {Q : VK} {Q' : DK} {σ : L2.St} {env : DEnv} {a : Addr} {ds : List D} {vs : List V} (g : anc X.K G H h) (er : ER X.K H env σ) (fin : ∀ v H' d h', Gr X.K H h H' h' → HR X.K X.mg H' h' → Rp X.K H' d v → Q' d h' → Q v H')
    (k1 : Gr X.K H h H1 h1) (k2 : Gr X.K H1 h1 H2 h2) (r2 : HR X.K X.mg H2 h2) (p2 : RpL X.K H2 ds vs) (hn : ds.length + 1 = n) (q2 : S (.ref a :: ds) h2 (wk Q') (E env)) : lSp X.K X.mg n S (.ref a :: vs) H2 (slQ P w Q) (WE (lW X.K X.mg G E) σ) :=
  ⟨.ref a :: ds, h2, wk Q', E env, by rw [List.length_cons]; exact hn, RpL.cons (by unfold Rp; rfl) p2, r2, q2, fun v H3 d3 h3 k3 r3 p3 ⟨d4, h4, sl, q3⟩ hp ho => (by
    obtain ⟨H4, f4, k4, r4, p4⟩ := sl.fin r3 p3 ho
    exact ⟨H4, f4, fin v H4 d4 h4 (((k1.trans k2).trans k3).trans k4) r4 p4 q3⟩), fun c dx H' ⟨nm, C, fs, h', a1, a2, a3, a4⟩ => ⟨env, (er.mono (k1.trans k2)).mono a3, nm, C, fs, h', a1, a2, (g.on (k1.trans k2)).on a3, a4⟩⟩
theorem meth_tree {args : List Expr} {env : Env} (hbase : attributeBase o m env (eval o env) = eval o env) (hpl : (backTo pos (starEach args env)).any (·.1) = false) (hn : args.length < 30) (hline : (apos.endLine == pos.line) = true) : eval (.Call (.Attribute o m apos) args [] pos) env = (do
      let ov ← eval o env
      standAt apos.atName
      let (f, first) ← holding [ov] (getMethod ov m (do return (← importBound o env).getD true))
      callWith pos f first (backTo pos (starEach args env)) (backToKw pos (keywordEach [] env))) := by
  have hform : methodCallForm (args.length + ([] : List Keyword).length) (backTo pos (starEach args env)) (backToKw pos (keywordEach [] env)) = true := by
    unfold methodCallForm
    have a : (backTo pos (starEach args env)).all (fun x => !x.1) = true := by
      rw [List.all_eq_true]
      intro x hx
      rw [List.any_eq_false] at hpl
      simpa using hpl x hx
    have b : backToKw pos (keywordEach [] env) = [] := rfl
    rw [a, b]
    simp
    exact hn
  have hpos : methodCallPos true o env apos pos = pure pos := by unfold methodCallPos; simp [hline]
  rw [arm_eval_Call, hbase]
  unfold methodCall
  rw [hform, hpos]
  unfold calleeOf
  simp
theorem de_methI (M : MethOk X cn m n S) (hx : PassD X G E) (he : DE X G o to) (ha : DA X G (e :: es) ta) (hbase : attributeBase o m X.env (eval o X.env) = eval o X.env) (hst : starEach (e :: es) X.env = (false, eval e X.env) :: starEach es X.env) (hpl : (backTo pos (starEach (e :: es) X.env)).any (·.1) = false) (hpl2 : (backTo pos (starEach es X.env)).any (·.1) = false) (hn : (e :: es).length < 30) (hline : (apos.endLine == pos.line) = true) :
    DE X G (.Call (.Attribute o m apos) (e :: es) [] pos) (dMethI cn m S n E to ta) := by
  obtain ⟨k, f, fd, ps, hr, hm, hc, hM, hb, F⟩ := M
  refine PE.of (PE.seal (pe_methX he hc hM F hr hb hx ha hst hpl2 (meth_tree hbase hpl hn hline))) fun σ H Q ⟨env, h, Q', g, er, hr, q, fin⟩ => ⟨env, h, _, g, er, hr, q, fun v H1 d h1 k1 r1 p1 q1 => ?_⟩
  obtain ⟨a, rfl, rfl, q2⟩ := refI_of q1 p1
  obtain ⟨c, fs, ea, rfl, hl, q3⟩ := insAt_of q2
  obtain ⟨C, dx, fvs, em, eH, rf⟩ := r1.ins ea
  rw [hm] at em
  cases em
  exact ⟨a, dx, fvs, rfl, eH, rf.miss hl, env, h1, _, g.on k1, er.mono k1, r1, q3, fun vs H2 ds h2 k2 r2 p2 q4 => meth_fin g er fin k1 k2 r2 p2 q4.1 q4.2⟩
theorem de_methI0 (M : MethOk X cn m n S) (hx : PassD X G E) (he : DE X G o to) (hbase : attributeBase o m X.env (eval o X.env) = eval o X.env) (hline : (apos.endLine == pos.line) = true) :
    DE X G (.Call (.Attribute o m apos) [] [] pos) (dMethI cn m S n E to dNil) := by
  obtain ⟨k, f, fd, ps, hr, hm, hc, hM, hb, F⟩ := M
  refine PE.of (PE.seal (pe_methX0 he hc hM F hr hb hx (meth_tree hbase rfl (by decide) hline))) fun σ H Q ⟨env, h, Q', g, er, hr, q, fin⟩ => ⟨env, h, _, g, er, hr, q, fun v H1 d h1 k1 r1 p1 q1 => ?_⟩
  obtain ⟨a, rfl, rfl, q2⟩ := refI_of q1 p1
  obtain ⟨c, fs, ea, rfl, hl, q3⟩ := insAt_of q2
  obtain ⟨C, dx, fvs, em, eH, rf⟩ := r1.ins ea
  rw [hm] at em
  cases em
  exact ⟨a, dx, fvs, rfl, eH, rf.miss hl, meth_fin (ds := []) g er fin k1 Gr.refl r1 RpL.nil q3.1 q3.2⟩
/-- a class that is made: its __init__ -/
def MakeOk (X : Cx) (cn : Str) (n : Nat) (S : DSp) : Prop := ∃ k f fd ps, Room (k + 1) X.A ∧ X.mg cn = some (.ref (He.ga X.K cn)) ∧ Mk X.K (He.ga X.K cn) f ∧ Binds X.K fd ps [] ∧ FnOk X.prog X.w X.K X.mg X.base (L2.CX X.prog X.w) k f fd ps (lSp X.K X.mg n S)
theorem make_fin {H H1 : Hp} {h h1 : DH} {Q : VK} {Q' : DK} {σ : L2.St} {env : DEnv} {ds : List D} {vs : List V} (hm : X.mg cn = some (.ref (He.ga X.K cn))) (g : anc X.K G H h) (er : ER X.K H env σ) (fin : ∀ v H' d h', Gr X.K H h H' h' → HR X.K X.mg H' h' → Rp X.K H' d v → Q' d h' → Q v H')
    (k1 : Gr X.K H h H1 h1) (r1 : HR X.K X.mg H1 h1) (p1 : RpL X.K H1 ds vs) (hn : ds.length + 1 = n) (q : ∀ p, h1 p = none → S (.ref p :: ds) (up h1 p (.ins cn [])) (fun d h2 => d = .non ∧ Q' (.ref p) h2) (E env)) (x dx : Addr) (nx : H1 x = none) (nd : H1 dx = none) (ne : dx ≠ x) :
    lSp X.K X.mg n S (.ref x :: vs) (upd (upd H1 dx (.own x)) x (.ins (He.ga X.K cn) dx [])) (fun v H2 => v = .non ∧ Q (.ref x) H2) (WE (lW X.K X.mg G E) σ) := by
  have n2 : upd H1 dx (.own x) x = none := by rw [upd_ne (Ne.symm ne)]; exact nx
  have k2 : Gr X.K H1 h1 (upd (upd H1 dx (.own x)) x (.ins (He.ga X.K cn) dx [])) (up h1 x (.ins cn [])) := (Gr.under nd).trans (Gr.new n2)
  have r2 : HR X.K X.mg (upd (upd H1 dx (.own x)) x (.ins (He.ga X.K cn) dx [])) (up h1 x (.ins cn [])) := (r1.under nd).new n2 ⟨_, dx, [], hm, upd_same, by unfold RpF; rfl⟩
  refine ⟨.ref x :: ds, _, _, E env, by rw [List.length_cons]; exact hn, RpL.cons (by unfold Rp; rfl) (RpL.mono k2 _ _ p1), r2, q x (r1.free nx), fun v H3 d3 h3 k3 r3 p3 ⟨e3, q3⟩ => ?_, fun c dx' H' ⟨nm, C, fs, h', a1, a2, a3, a4⟩ => ⟨env, (er.mono (k1.trans k2)).mono a3, nm, C, fs, h', a1, a2, (g.on (k1.trans k2)).on a3, a4⟩⟩
  subst e3
  unfold Rp at p3
  exact ⟨p3, fin (.ref x) H3 (.ref x) h3 ((k1.trans k2).trans k3) r3 (by unfold Rp; rfl) q3⟩
theorem de_makeI (M : MakeOk X x n S) (hx : PassD X G E) (hg : Gl X x) (ha : DA X G (e :: es) ta) (hdb : (x == ("__debug__" : Str)) = false) (he : starEach (e :: es) X.env = (false, eval e X.env) :: starEach es X.env) (hpl : (backTo pos (starEach es X.env)).any (·.1) = false) :
    DE X G (.Call (.Name x p) (e :: es) [] pos) (dMakeI x S n E ta) := by
  obtain ⟨k, f, fd, ps, hr, hm, hM, hb, F⟩ := M
  exact PE.of (pe_makeX hM F hr hg hm hb hx ha hdb he hpl) fun σ H Q ⟨env, h, Q', g, er, hr, q, fin⟩ => ⟨env, h, _, g, er, hr, q, fun vs H1 ds h1 k1 r1 p1 q1 => make_fin hm g er fin k1 r1 p1 q1.1 q1.2⟩
theorem de_makeI0 (M : MakeOk X x n S) (hx : PassD X G E) (hg : Gl X x) (hdb : (x == ("__debug__" : Str)) = false) : DE X G (.Call (.Name x p) [] [] pos) (dMakeI x S n E dNil) := by
  obtain ⟨k, f, fd, ps, hr, hm, hM, hb, F⟩ := M
  exact PE.of (pe_makeX0 hM F hr hg hm hb hx hdb) fun σ H Q ⟨env, h, Q', g, er, hr, q, fin⟩ => make_fin (ds := []) hm g er fin Gr.refl hr RpL.nil q.1 q.2
theorem de_call0 (F : FnOk X.prog X.w X.K X.mg X.base (L2.CX X.prog X.w) k fa fd ps (lSp X.K X.mg n S)) (hr : Room k X.A) (hg : Gl X x) (hm : X.mg x = some (.ref fa)) (hk : PySem.W.keepIn X.K (.ref fa) = true) (hb : Binds X.K fd ps []) (hx : PassD X G E)
    (hdb : (x == ("__debug__" : Str)) = false) : DE X G (.Call (.Name x p) [] [] pos) (dCall S n E dNil) :=
  PE.of (pe_callX0 F hr hg hm hk hb hx hdb) fun σ H Q ⟨env, h, Q', g, er, hr, q, fin⟩ =>
    ⟨[], h, Q', E env, q.1, RpL.nil, hr, q.2, fun v H2 d h2 k2 r2 p2 q2 => fin v H2 d h2 k2 r2 p2 q2, fun c dx H' ⟨nm, C, fs, h', a1, a2, a3, a4⟩ => ⟨env, er.mono a3, nm, C, fs, h', a1, a2, g.on a3, a4⟩⟩
end
end DL
set_option Elab.async false
set_option linter.all false
set_option maxRecDepth 100000
set_option maxHeartbeats 4000000
namespace DL
open PySem PySem.Spec PyProof.Rows L2
/-! ### dicts: values by keys -/
section
variable {κ : Type} [DecidableEq κ]
def valD (kvs : List (κ × D)) (k : κ) : Option D := (kvs.find? fun p => decide (p.1 = k)).map (·.2)
def putE (kvs : List (κ × D)) (k : κ) (d : D) : List (κ × D) := if (kvs.any fun p => decide (p.1 = k)) = true then kvs.map (fun p => if p.1 = k then (p.1, d) else p) else kvs ++ [(k, d)]
def dropE (kvs : List (κ × D)) (k : κ) : List (κ × D) := kvs.filter fun p => decide (p.1 ≠ k)
theorem valD_pos {p : κ × D} {r : List (κ × D)} {k : κ} (e : p.1 = k) : valD (p :: r) k = some p.2 := by simp [valD, List.find?_cons, e]
theorem valD_neg {p : κ × D} {r : List (κ × D)} {k : κ} (e : ¬ p.1 = k) : valD (p :: r) k = valD r k := by simp [valD, List.find?_cons, e]
theorem valD_any (k : κ) : ∀ kvs : List (κ × D), (kvs.any fun p => decide (p.1 = k)) = (valD kvs k).isSome
  | [] => rfl
  | p :: r => by
    rw [List.any_cons]
    by_cases e : p.1 = k
    · simp only [valD_pos e, decide_eq_true e, Bool.true_or, Option.isSome_some]
    · rw [valD_neg e, decide_eq_false e, Bool.false_or]; exact valD_any k r
theorem keys_putE {kvs : List (κ × D)} {k : κ} {d : D} : (putE kvs k d).map (·.1) = if (valD kvs k).isSome = true then kvs.map (·.1) else kvs.map (·.1) ++ [k] := by
  unfold putE
  rw [valD_any]
  split
  · rw [List.map_map]
    apply List.map_congr_left
    intro p _
    show (if p.1 = k then (p.1, d) else p).1 = p.1
    split <;> rfl
  · simp
theorem valD_mem {kvs : List (κ × D)} {k : κ} (h : k ∈ kvs.map (·.1)) : (valD kvs k).isSome = true := by
  rw [← valD_any, List.any_eq_true]
  obtain ⟨p, hp, rfl⟩ := List.mem_map.mp h
  exact ⟨p, hp, by simp⟩
theorem nodup_putE {kvs : List (κ × D)} {k : κ} {d : D} (n : (kvs.map (·.1)).Nodup) : ((putE kvs k d).map (·.1)).Nodup := by
  rw [keys_putE]
  split
  · exact n
  · rename_i h
    refine List.nodup_append.mpr ⟨n, by simp, fun x hx y hy => ?_⟩
    simp at hy
    subst hy
    intro e
    subst e
    exact h (valD_mem hx)
theorem length_putE (kvs : List (κ × D)) (k : κ) (d : D) : (putE kvs k d).length ≤ kvs.length + 1 := by
  unfold putE
  split
  · rw [List.length_map]; omega
  · simp
theorem mem_putE {kvs : List (κ × D)} {k : κ} {d : D} {p : κ × D} (h : p ∈ putE kvs k d) : p.1 = k ∨ p ∈ kvs := by
  unfold putE at h
  split at h
  · obtain ⟨q, hq, rfl⟩ := List.mem_map.mp h
    by_cases e : q.1 = k
    · rw [if_pos e]; exact .inl e
    · rw [if_neg e]; exact .inr hq
  · rcases List.mem_append.mp h with h | h
    · exact .inr h
    · simp at h; rw [h]; exact .inl rfl
end
/-! ### what stands for them -/
section
variable {K : PySem.W.Frag} {H : Hp}
theorem RpK.nil : RpK K H [] [] := by unfold RpK; rfl
theorem RpK.length : ∀ {kvs : List (L2.Key × D)} {vs : List (L2.Key × V)}, RpK K H kvs vs → vs.length = kvs.length
  | [], vs, r => by unfold RpK at r; subst r; rfl
  | p :: ps, vs, r => by
    unfold RpK at r
    obtain ⟨v, t, rfl, r1, r2⟩ := r
    rw [List.length_cons, List.length_cons, RpK.length r2]
theorem RpK.some_ : ∀ {kvs : List (L2.Key × D)} {vs : List (L2.Key × V)} {k : L2.Key} {d : D}, RpK K H kvs vs → valD kvs k = some d → ∃ v, valV vs k = some v ∧ Rp K H d v
  | [], vs, k, d, r, e => by cases e
  | p :: ps, vs, k, d, r, e => by
    unfold RpK at r
    obtain ⟨v, t, rfl, r1, r2⟩ := r
    by_cases c : p.1 = k
    · rw [valD_pos c] at e
      cases e
      exact ⟨v, valV_pos (p := (p.1, v)) c, r1⟩
    · rw [valD_neg c] at e
      rw [valV_neg (p := (p.1, v)) c]
      exact RpK.some_ r2 e
theorem RpK.none_ : ∀ {kvs : List (L2.Key × D)} {vs : List (L2.Key × V)} {k : L2.Key}, RpK K H kvs vs → valD kvs k = none → valV vs k = none
  | [], vs, k, r, e => by unfold RpK at r; subst r; rfl
  | p :: ps, vs, k, r, e => by
    unfold RpK at r
    obtain ⟨v, t, rfl, r1, r2⟩ := r
    by_cases c : p.1 = k
    · rw [valD_pos c] at e; cases e
    · rw [valD_neg c] at e
      rw [valV_neg (p := (p.1, v)) c]
      exact RpK.none_ r2 e
theorem RpK.isSome {kvs : List (L2.Key × D)} {vs : List (L2.Key × V)} {k : L2.Key} (r : RpK K H kvs vs) : (valV vs k).isSome = (valD kvs k).isSome := by
  cases e : valD kvs k with
  | none => rw [r.none_ e]; rfl
  | some d => obtain ⟨v, e1, _⟩ := r.some_ e; rw [e1]; rfl
theorem RpK.repl {k : L2.Key} {d : D} {y : V} (q : Rp K H d y) : ∀ {kvs : List (L2.Key × D)} {vs : List (L2.Key × V)}, RpK K H kvs vs → RpK K H (kvs.map fun p => if p.1 = k then (p.1, d) else p) (vs.map fun p => if p.1 = k then (p.1, y) else p)
  | [], vs, r => by unfold RpK at r; subst r; exact RpK.nil
  | p :: ps, vs, r => by
    unfold RpK at r
    obtain ⟨v, t, rfl, r1, r2⟩ := r
    rw [List.map_cons, List.map_cons]
    unfold RpK
    by_cases c : p.1 = k
    · exact ⟨y, _, by rw [if_pos c, if_pos c], by rw [if_pos c]; exact q, RpK.repl q r2⟩
    · exact ⟨v, _, by rw [if_neg c, if_neg c], by rw [if_neg c]; exact r1, RpK.repl q r2⟩
theorem RpK.snoc {k : L2.Key} {d : D} {y : V} (q : Rp K H d y) : ∀ {kvs : List (L2.Key × D)} {vs : List (L2.Key × V)}, RpK K H kvs vs → RpK K H (kvs ++ [(k, d)]) (vs ++ [(k, y)])
  | [], vs, r => by unfold RpK at r; subst r; unfold RpK; exact ⟨y, [], rfl, q, RpK.nil⟩
  | p :: ps, vs, r => by
    unfold RpK at r
    obtain ⟨v, t, rfl, r1, r2⟩ := r
    rw [List.cons_append, List.cons_append]
    unfold RpK
    exact ⟨v, _, rfl, r1, RpK.snoc q r2⟩
theorem RpK.put {k : L2.Key} {d : D} {y : V} (q : Rp K H d y) {kvs : List (L2.Key × D)} {vs : List (L2.Key × V)} (r : RpK K H kvs vs) : RpK K H (putE kvs k d) (putK vs k y) := by
  unfold putE putK
  rw [valD_any, valV_any, r.isSome]
  split
  · exact r.repl q
  · exact r.snoc q
theorem RpK.drop {k : L2.Key} : ∀ {kvs : List (L2.Key × D)} {vs : List (L2.Key × V)}, RpK K H kvs vs → RpK K H (dropE kvs k) (dropK vs k)
  | [], vs, r => by unfold RpK at r; subst r; exact RpK.nil
  | p :: ps, vs, r => by
    unfold RpK at r
    obtain ⟨v, t, rfl, r1, r2⟩ := r
    unfold dropE dropK
    rw [List.filter_cons, List.filter_cons]
    by_cases c : p.1 = k
    · have a : ¬ decide (p.1 ≠ k) = true := by simp [c]
      rw [if_neg a, if_neg a]
      exact RpK.drop r2
    · have a : decide (p.1 ≠ k) = true := by simp [c]
      rw [if_pos a, if_pos a]
      unfold RpK
      exact ⟨v, _, rfl, r1, RpK.drop r2⟩
theorem RpN.nil : RpN K H [] [] := by unfold RpN; rfl
theorem RpN.length : ∀ {kvs : List (NestedKey × D)} {xs : List (NestedKey × Addr × Value)}, RpN K H kvs xs → xs.length = kvs.length
  | [], vs, r => by unfold RpN at r; subst r; rfl
  | p :: ps, vs, r => by
    unfold RpN at r
    obtain ⟨b, v, u, t, rfl, r0, r1, r2, r3⟩ := r
    rw [List.length_cons, List.length_cons, RpN.length r3]
theorem RpN.keys : ∀ {kvs : List (NestedKey × D)} {xs : List (NestedKey × Addr × Value)}, RpN K H kvs xs → xs.map (·.1) = kvs.map (·.1)
  | [], vs, r => by unfold RpN at r; subst r; rfl
  | p :: ps, vs, r => by
    unfold RpN at r
    obtain ⟨b, v, u, t, rfl, r0, r1, r2, r3⟩ := r
    rw [List.map_cons, List.map_cons, RpN.keys r3]
theorem atKey_pos {p : NestedKey × Addr × Value} {r : List (NestedKey × Addr × Value)} {k : NestedKey} (e : p.1 = k) : atKey (p :: r) k = some p.2 := by simp [atKey, List.find?_cons, e]
theorem atKey_neg {p : NestedKey × Addr × Value} {r : List (NestedKey × Addr × Value)} {k : NestedKey} (e : ¬ p.1 = k) : atKey (p :: r) k = atKey r k := by simp [atKey, List.find?_cons, e]
theorem RpN.some_ : ∀ {kvs : List (NestedKey × D)} {xs : List (NestedKey × Addr × Value)} {k : NestedKey} {d : D}, RpN K H kvs xs → valD kvs k = some d → ∃ b v u, atKey xs k = some (b, u) ∧ RelV v u ∧ Rp K H d v
  | [], vs, k, d, r, e => by cases e
  | p :: ps, vs, k, d, r, e => by
    unfold RpN at r
    obtain ⟨b, v, u, t, rfl, r0, r1, r2, r3⟩ := r
    by_cases c : p.1 = k
    · rw [valD_pos c] at e
      cases e
      exact ⟨b, v, u, atKey_pos (p := (p.1, b, u)) c, r1, r2⟩
    · rw [valD_neg c] at e
      rw [atKey_neg (p := (p.1, b, u)) c]
      exact RpN.some_ r3 e
theorem RpN.none_ : ∀ {kvs : List (NestedKey × D)} {xs : List (NestedKey × Addr × Value)} {k : NestedKey}, RpN K H kvs xs → valD kvs k = none → atKey xs k = none
  | [], vs, k, r, e => by unfold RpN at r; subst r; rfl
  | p :: ps, vs, k, r, e => by
    unfold RpN at r
    obtain ⟨b, v, u, t, rfl, r0, r1, r2, r3⟩ := r
    by_cases c : p.1 = k
    · rw [valD_pos c] at e; cases e
    · rw [valD_neg c] at e
      rw [atKey_neg (p := (p.1, b, u)) c]
      exact RpN.none_ r3 e
theorem RpN.isSome {kvs : List (NestedKey × D)} {xs : List (NestedKey × Addr × Value)} {k : NestedKey} (r : RpN K H kvs xs) : (atKey xs k).isSome = (valD kvs k).isSome := by
  cases e : valD kvs k with
  | none => rw [r.none_ e]; rfl
  | some d => obtain ⟨b, v, u, e1, _⟩ := r.some_ e; rw [e1]; rfl
theorem RpN.repl {k : NestedKey} {d : D} {y : V} {z : Value} (rz : RelV y z) (q : Rp K H d y) : ∀ {kvs : List (NestedKey × D)} {xs : List (NestedKey × Addr × Value)}, RpN K H kvs xs → RpN K H (kvs.map fun p => if p.1 = k then (p.1, d) else p) (xs.map (putAt k z))
  | [], vs, r => by unfold RpN at r; subst r; exact RpN.nil
  | p :: ps, vs, r => by
    unfold RpN at r
    obtain ⟨b, v, u, t, rfl, r0, r1, r2, r3⟩ := r
    rw [List.map_cons, List.map_cons]
    unfold RpN
    by_cases c : p.1 = k
    · exact ⟨b, y, z, _, by unfold putAt; rw [if_pos c, if_pos c], by rw [if_pos c]; exact r0, rz, by rw [if_pos c]; exact q, RpN.repl rz q r3⟩
    · exact ⟨b, v, u, _, by unfold putAt; rw [if_neg c, if_neg c], by rw [if_neg c]; exact r0, r1, by rw [if_neg c]; exact r2, RpN.repl rz q r3⟩
theorem RpN.snoc {k : NestedKey} {c : Addr} {d : D} {y : V} {z : Value} (r0' : Rp K H (ofNk k) (.ref c)) (rz : RelV y z) (q : Rp K H d y) : ∀ {kvs : List (NestedKey × D)} {xs : List (NestedKey × Addr × Value)}, RpN K H kvs xs → RpN K H (kvs ++ [(k, d)]) (xs ++ [(k, c, z)])
  | [], vs, r => by unfold RpN at r; subst r; unfold RpN; exact ⟨c, y, z, [], rfl, r0', rz, q, RpN.nil⟩
  | p :: ps, vs, r => by
    unfold RpN at r
    obtain ⟨b, v, u, t, rfl, r0, r1, r2, r3⟩ := r
    rw [List.cons_append, List.cons_append]
    unfold RpN
    exact ⟨b, v, u, _, rfl, r0, r1, r2, RpN.snoc r0' rz q r3⟩
theorem RpN.put {k : NestedKey} {c : Addr} {d : D} {y : V} {z : Value} (r0' : Rp K H (ofNk k) (.ref c)) (rz : RelV y z) (q : Rp K H d y) {kvs : List (NestedKey × D)} {xs : List (NestedKey × Addr × Value)} (r : RpN K H kvs xs) : RpN K H (putE kvs k d) (storedH xs k c z) := by
  unfold putE storedH
  rw [valD_any, r.isSome]
  split
  · exact r.repl rz q
  · exact r.snoc r0' rz q
theorem RpN.at_ : ∀ {kvs : List (NestedKey × D)} {xs : List (NestedKey × Addr × Value)} {i : Nat} {x : NestedKey × Addr × Value}, RpN K H kvs xs → xs[i]? = some x → ∃ d v, kvs[i]? = some (x.1, d) ∧ Rp K H (ofNk x.1) (.ref x.2.1) ∧ RelV v x.2.2 ∧ Rp K H d v
  | [], xs, i, x, r, e => by unfold RpN at r; subst r; simp at e
  | p :: ps, xs, 0, x, r, e => by
    unfold RpN at r
    obtain ⟨b, v, u, t, rfl, r0, r1, r2, r3⟩ := r
    simp at e
    subst e
    exact ⟨p.2, v, rfl, r0, r1, r2⟩
  | p :: ps, xs, i + 1, x, r, e => by
    unfold RpN at r
    obtain ⟨b, v, u, t, rfl, r0, r1, r2, r3⟩ := r
    exact RpN.at_ (i := i) r3 (by simpa using e)
end
/-! ### keys -/
mutual
def nkOf : D → Option NestedKey
  | .non => some .none
  | .int i => some (.num i)
  | .tup ds => (nksOf ds).map .tup
  | _ => none
def nksOf : List D → Option (List NestedKey)
  | [] => some []
  | d :: ds => (nkOf d).bind fun k => (nksOf ds).map fun ks => k :: ks
end
mutual
theorem nkOf_eq : ∀ {d : D} {k : NestedKey}, nkOf d = some k → d = ofNk k
  | .non, k, h => by simp only [nkOf] at h; cases h; simp only [ofNk]
  | .int i, k, h => by simp only [nkOf] at h; cases h; simp only [ofNk]
  | .tup ds, k, h => by
    simp only [nkOf] at h
    obtain ⟨ks, e, rfl⟩ := Option.map_eq_some_iff.mp h
    simp only [ofNk]
    rw [nksOf_eq e]
  | .bl _, k, h => by simp only [nkOf] at h; cases h
  | .str _, k, h => by simp only [nkOf] at h; cases h
  | .frz _, k, h => by simp only [nkOf] at h; cases h
  | .scr _, k, h => by simp only [nkOf] at h; cases h
  | .ref _, k, h => by simp only [nkOf] at h; cases h
  | .exc _ _, k, h => by simp only [nkOf] at h; cases h
theorem nksOf_eq : ∀ {ds : List D} {ks : List NestedKey}, nksOf ds = some ks → ds = ofNks ks
  | [], ks, h => by simp only [nksOf] at h; cases h; simp only [ofNks]
  | d :: ds, ks, h => by
    simp only [nksOf] at h
    obtain ⟨k, e, h⟩ := Option.bind_eq_some_iff.mp h
    obtain ⟨ks', e', rfl⟩ := Option.map_eq_some_iff.mp h
    simp only [ofNks]
    rw [← nkOf_eq e, ← nksOf_eq e']
end
def keyOf : D → Option L2.Key
  | .int i => some (.inl i)
  | .str x => some (.inr x)
  | _ => none
theorem keyOf_rp {K : PySem.W.Frag} {H : Hp} {d : D} {v : V} {k : L2.Key} (h : keyOf d = some k) (p : Rp K H d v) : v = kV k := by
  cases d with
  | int i => cases h; unfold Rp at p; exact p
  | str x => cases h; unfold Rp at p; exact p
  | _ => cases h
def ofK : L2.Key → D
  | .inl i => .int i
  | .inr x => .str x
theorem ofK_rp {K : PySem.W.Frag} {H : Hp} {k : L2.Key} : Rp K H (ofK k) (kV k) := by
  cases k <;> (unfold ofK Rp; rfl)
section
variable {X : Cx} {pins : List (Addr × Obj)} {σ : L2.St} {H : Hp} {s : Shared}
mutual
theorem nested_of (I : Inv X pins σ H s) : ∀ (k : NestedKey) (v : V) (u : Value), Rp X.K H (ofNk k) v → RelV v u → NestedIs s.heap k u
  | .none, v, u, p, r => by
    simp only [ofNk] at p
    unfold Rp at p
    subst p
    cases r
    exact .none
  | .num i, v, u, p, r => by
    simp only [ofNk] at p
    unfold Rp at p
    subst p
    obtain ⟨t, rfl⟩ := r
    exact .int i t
  | .text x, v, u, p, r => by
    simp only [ofNk] at p
    unfold Rp at p
    subst p
    obtain ⟨t, rfl⟩ := r
    exact .text x t
  | .tup ks, v, u, p, r => by
    simp only [ofNk] at p
    unfold Rp at p
    obtain ⟨a, vs, rfl, q, l⟩ := p
    cases r
    obtain ⟨its, rv, ⟨o, e1, e2, n, e3⟩, _⟩ := I.tuple q
    exact .tup e1 e2 e3 (by simpa using nested_all I ks vs its l rv)
theorem nested_all (I : Inv X pins σ H s) : ∀ (ks : List NestedKey) (vs : List V) (us : List Value), RpL X.K H (ofNks ks) vs → Vals vs us → NestedAll s.heap ks us
  | [], vs, us, p, r => by
    simp only [ofNks] at p
    unfold RpL at p
    subst p
    cases r
    exact .nil
  | k :: ks, vs, us, p, r => by
    simp only [ofNks] at p
    unfold RpL at p
    obtain ⟨v, t, rfl, p1, p2⟩ := p
    cases r with
    | cons r1 r2 => exact .cons (nested_of I k v _ p1 r1) (nested_all I ks t _ p2 r2)
end
theorem nk_is (I : Inv X pins σ H s) {k : NestedKey} {b : Addr} (ok : kOk k = true) (p : Rp X.K H (ofNk k) (.ref b)) : (nestedKind X.prog X.w).is s.heap k b := by
  unfold kOk at ok
  simp only [Bool.and_eq_true, decide_eq_true_eq] at ok
  exact ⟨nested_of I k _ _ p rfl, ok.2.2⟩
/-- such a key is a tuple -/
theorem nk_ref {k : NestedKey} {v : V} (ok : kOk k = true) (p : Rp X.K H (ofNk k) v) : ∃ b, v = .ref b := by
  cases k with
  | tup ks =>
    simp only [ofNk] at p
    unfold Rp at p
    obtain ⟨a, vs, e, _⟩ := p
    exact ⟨a, e⟩
  | _ => simp [kOk, isTupK] at ok
theorem dnE_eq {P : Program} {w : World} {x : NestedKey × Addr × Value} (ok : kOk x.1 = true) : entryOfKey (nestedKind P w) x = dnE x := by
  unfold entryOfKey dnE
  unfold kOk at ok
  simp only [Bool.and_eq_true, decide_eq_true_eq] at ok
  have e : (nestedKind P w).hash x.1 = hashN x.1 := hashN_eq w x.1 ok.2.1
  rw [e]
theorem RpN.ok {K : PySem.W.Frag} {kvs : List (NestedKey × D)} {xs : List (NestedKey × Addr × Value)} (r : RpN K H kvs xs) (ok : ∀ p ∈ kvs, kOk p.1 = true) : ∀ x ∈ xs, kOk x.1 = true := fun x hx => by
  have : x.1 ∈ kvs.map (·.1) := by rw [← r.keys]; exact List.mem_map_of_mem hx
  obtain ⟨p, hp, e⟩ := List.mem_map.mp this
  rw [← e]
  exact ok p hp
/-- the kit's own word of such a dict -/
theorem dn_of (I : Inv X pins σ H s) {a : Addr} {ep : Nat} {kvs : List (NestedKey × D)} {xs : List (NestedKey × Addr × Value)} (e : H a = some (dnO a ep xs)) (r : RpN X.K H kvs xs) (nd : (kvs.map (·.1)).Nodup) (ok : ∀ p ∈ kvs, kOk p.1 = true) :
    (a == sysModules) = false ∧ s.heap.DictOfH (nestedKind X.prog X.w) a xs := by
  obtain ⟨⟨hs, o, es, h1, h2, h3, h4⟩, _⟩ := (show ObjOk X.prog X.w H s.heap a (dnO a ep xs) from I.hok a _ e)
  have okx := r.ok ok
  refine ⟨hs, o, es, ep, h1, h2, h3, ?_, fun x hx => ?_, by rw [r.keys]; exact nd⟩
  · rw [h4]
    exact List.map_congr_left fun x hx => (dnE_eq (okx x hx)).symm
  · obtain ⟨i, hi⟩ := List.mem_iff_getElem?.mp hx
    obtain ⟨d, v, e1, r0, _⟩ := r.at_ hi
    exact nk_is I (okx x hx) r0
theorem dn_ok {P : Program} {w : World} {h : Heap} {a : Addr} {xs : List (NestedKey × Addr × Value)} (hs : (a == sysModules) = false) (d : h.DictOfH (nestedKind P w) a xs) (ok : ∀ x ∈ xs, kOk x.1 = true) : ∃ ep, ∀ H : Hp, ObjOk P w H h a (dnO a ep xs) := by
  obtain ⟨o, es, ep, h1, h2, h3, h4, h5, h6⟩ := d
  refine ⟨ep, fun H => ⟨⟨hs, o, es, h1, h2, h3, ?_⟩, ⟨o, h1⟩, fun h1' h2' p k => ?_⟩⟩
  · rw [h4]
    exact List.map_congr_left fun x hx => dnE_eq (ok x hx)
  · obtain ⟨q0, o', es', q1, q2⟩ := p
    exact ⟨q0, o', es', k o' q1, q2⟩
/-- its entries -/
theorem dn_raw (I : Inv X pins σ H s) {a : Addr} {ep : Nat} {xs : List (NestedKey × Addr × Value)} (e : H a = some (dnO a ep xs)) : (a == sysModules) = false ∧ ∃ es, s.heap.DictRaw a es ep ∧ es.toList = xs.map dnE := by
  obtain ⟨⟨hs, o, es, h1, h2, h3, h4⟩, _⟩ := (show ObjOk X.prog X.w H s.heap a (dnO a ep xs) from I.hok a _ e)
  exact ⟨hs, es, ⟨o, h1, h2, h3⟩, h4⟩
theorem dn_room {A : Around} (hu : A.units + 65 < cLine) : (nestedKind X.prog X.w).room A.in1 := by
  show A.units + 1 + 8 < cLine
  omega
end
end DL
set_option Elab.async false
set_option linter.all false
set_option maxRecDepth 100000
set_option maxHeartbeats 4000000
namespace DL
open PySem PySem.Spec PyProof.Rows L2
/-! ### what is done with dicts -/
def dctAt (o : Option DO) (A : Nat → List (NestedKey × D) → Prop) (B : List (L2.Key × D) → Prop) (C : Prop) : Prop := match o with
  | some (.dN ep kvs) => A ep kvs
  | some (.dK kvs) => B kvs
  | _ => C
def dctOf (d : D) (h : DH) (A : Addr → Nat → List (NestedKey × D) → Prop) (B : Addr → List (L2.Key × D) → Prop) (C : Prop) : Prop := match d with
  | .ref a => dctAt (h a) (A a) (B a) C
  | _ => C
theorem dctOf_of {d : D} {h : DH} {A : Addr → Nat → List (NestedKey × D) → Prop} {B : Addr → List (L2.Key × D) → Prop} {C : Prop} (q : dctOf d h A B C) :
    (∃ a ep kvs, d = .ref a ∧ h a = some (.dN ep kvs) ∧ A a ep kvs) ∨ (∃ a kvs, d = .ref a ∧ h a = some (.dK kvs) ∧ B a kvs) ∨ C := by
  cases d with
  | ref a =>
    have q : dctAt (h a) (A a) (B a) C := q
    cases e : h a with
    | none => rw [e] at q; exact .inr (.inr q)
    | some o =>
      rw [e] at q
      cases o with
      | dN ep kvs => exact .inl ⟨a, ep, kvs, rfl, e, q⟩
      | dK kvs => exact .inr (.inl ⟨a, kvs, rfl, e, q⟩)
      | lst ds => exact .inr (.inr q)
      | ins c fs => exact .inr (.inr q)
  | _ => exact .inr (.inr q)
section
variable {K : PySem.W.Frag} {mg : Str → Option Value} {H : Hp} {h : DH} {a : Addr}
theorem HR.dN {ep : Nat} {kvs : List (NestedKey × D)} (r : HR K mg H h) (e : h a = some (.dN ep kvs)) : ∃ xs, H a = some (dnO a ep xs) ∧ RpN K H kvs xs ∧ kvs.length ≤ sizeLine ∧ (kvs.map (·.1)).Nodup ∧ ∀ p ∈ kvs, kOk p.1 = true := r a _ e
theorem HR.dK {kvs : List (L2.Key × D)} (r : HR K mg H h) (e : h a = some (.dK kvs)) : ∃ vs, H a = some (.dK vs) ∧ RpK K H kvs vs := r a _ e
end
section
variable {X : Cx} {pins : List (Addr × Obj)} {σ : L2.St} {H : Hp} {s : Shared} {h : DH}
/-- a dict stored to -/
theorem dn_write (I : Inv X pins σ H s) (hr : HR X.K X.mg H h) {a c : Addr} {ep : Nat} {kvs : List (NestedKey × D)} {xs : List (NestedKey × Addr × Value)} (ea : h a = some (.dN ep kvs)) (e : H a = some (dnO a ep xs)) (rx : RpN X.K H kvs xs) (nd : (kvs.map (·.1)).Nodup) (ok : ∀ p ∈ kvs, kOk p.1 = true) (hs : (a == sysModules) = false)
    {k : NestedKey} {d : D} {v : V} {u : Value} {h' : Heap} {t' : Nat} (kk : kOk k = true) (rk : Rp X.K H (ofNk k) (.ref c)) (ru : RelV v u) (rv : Rp X.K H d v) (sz : kvs.length < sizeLine) (dd : h'.DictOfH (nestedKind X.prog X.w) a (storedH xs k c u)) (sb : Heap.SameBut a s.heap h') :
    ∃ ep', Inv X pins σ (upd H a (dnO a ep' (storedH xs k c u))) { s with heap := h', toks := t' } ∧ Gr X.K H h (upd H a (dnO a ep' (storedH xs k c u))) (up h a (.dN ep' (putE kvs k d))) ∧ HR X.K X.mg (upd H a (dnO a ep' (storedH xs k c u))) (up h a (.dN ep' (putE kvs k d))) := by
  have rp := rx.put rk ru rv
  have ok' : ∀ p ∈ putE kvs k d, kOk p.1 = true := fun p hp => by
    rcases mem_putE hp with e | e
    · rw [e]; exact kk
    · exact ok p e
  obtain ⟨ep', oo⟩ := dn_ok hs dd (rp.ok ok')
  have mu : Mut (H a) := by rw [e]; exact True.intro
  have he : ∃ q, h'.get? a = some q := let ⟨q, _, _, hq, _⟩ := dd; ⟨q, hq⟩
  have g : Gr X.K H h (upd H a (dnO a ep' (storedH xs k c u))) (up h a (.dN ep' (putE kvs k d))) := Gr.write mu ea
  refine ⟨ep', d_write I mu sb he (oo _), g, hr.write (o := .dN ep' (putE kvs k d)) mu ⟨_, upd_same, RpN.monoT g.tk _ _ rp, ?_, nodup_putE nd, ok'⟩⟩
  have := length_putE kvs k d
  omega
theorem dk_write (hr : HR X.K X.mg H h) {a : Addr} {kvs kvs' : List (L2.Key × D)} {vs vs' : List (L2.Key × V)} (ea : h a = some (.dK kvs)) (e : H a = some (.dK vs)) (r : RpK X.K H kvs' vs') :
    Gr X.K H h (upd H a (.dK vs')) (up h a (.dK kvs')) ∧ HR X.K X.mg (upd H a (.dK vs')) (up h a (.dK kvs')) := by
  have mu : Mut (H a) := by rw [e]; exact True.intro
  have g : Gr X.K H h (upd H a (.dK vs')) (up h a (.dK kvs')) := Gr.write mu ea
  exact ⟨g, hr.write (o := .dK kvs') mu ⟨_, upd_same, RpK.monoT g.tk _ _ r⟩⟩
end
/-! in, not in -/
def rInE (neg : Bool) : DR2 := fun d e h Q => dctOf e h (fun _ _ kvs => ∃ k, nkOf d = some k ∧ kOk k = true ∧ Q (.bl (xor neg (valD kvs k).isSome)) h) (fun _ kvs => ∃ k, keyOf d = some k ∧ Q (.bl (xor neg (valD kvs k).isSome)) h) (rInD' neg d e h Q)
def rIxE : DR2 := fun d e h Q => dctOf d h (fun _ _ kvs => ∃ k, nkOf e = some k ∧ kOk k = true ∧ optAt (valD kvs k) fun v => Q v h) (fun _ kvs => ∃ k, keyOf e = some k ∧ optAt (valD kvs k) fun v => Q v h) (rIxD' d e h Q)
def rSetIxE : DSet := fun o i v h Q => dctOf o h (fun a _ kvs => ∃ k, nkOf i = some k ∧ kOk k = true ∧ kvs.length < sizeLine ∧ ∀ ep, Q (up h a (.dN ep (putE kvs k v)))) (fun a kvs => ∃ k, keyOf i = some k ∧ kvs.length < sizeLine ∧ Q (up h a (.dK (putE kvs k v)))) (rSetIx o i v h Q)
section
variable {X : Cx}
theorem d_inE (hu : X.A.units + 65 < cLine) : DOp X (compareOp .In) (rInE false) := by
  intro pins s σ H x y v u Q I rx ry ⟨d, e, h, Q', hr, p1, p2, q, fin⟩
  rcases dctOf_of q with ⟨a, ep, kvs, rfl, ea, k, ek, kk, q⟩ | ⟨a, kvs, rfl, ea, k, ek, q⟩ | q
  · unfold Rp at p2
    subst p2
    cases ry
    obtain ⟨xs, eH, rx', sz, nd, ok⟩ := hr.dN ea
    rw [nkOf_eq ek] at p1
    obtain ⟨b, rfl⟩ := nk_ref kk p1
    cases rx
    obtain ⟨hs, dd⟩ := dn_of I eH rx' nd ok
    refine wpAny_in_heap (dn_room hu) (nk_is I kk p1) hs dd ?_
    rw [rx'.isSome]
    exact ⟨.bl _, H, I.tok _, rfl, fin _ H (.bl _) h Gr.refl hr (by unfold Rp; rfl) (by simpa using q)⟩
  · unfold Rp at p2
    subst p2
    cases ry
    obtain ⟨vs, eH, rx'⟩ := hr.dK ea
    have ex := keyOf_rp ek p1
    refine L2.d_in (by omega) I (DGet.k (k := k) eH) (by rw [← ex]; exact rx) fun s' I' => ⟨.bl _, H, I', rfl, fin _ H (.bl _) h Gr.refl hr (by unfold Rp; rfl) ?_⟩
    rw [rx'.isSome]
    simpa using q
  · exact DL.d_in hu pins s σ H x y v u Q I rx ry ⟨d, e, h, Q', hr, p1, p2, q, fin⟩
theorem d_notinE (hu : X.A.units + 65 < cLine) : DOp X (compareOp .NotIn) (rInE true) := by
  intro pins s σ H x y v u Q I rx ry ⟨d, e, h, Q', hr, p1, p2, q, fin⟩
  rcases dctOf_of q with ⟨a, ep, kvs, rfl, ea, k, ek, kk, q⟩ | ⟨a, kvs, rfl, ea, k, ek, q⟩ | q
  · unfold Rp at p2
    subst p2
    cases ry
    obtain ⟨xs, eH, rx', sz, nd, ok⟩ := hr.dN ea
    rw [nkOf_eq ek] at p1
    obtain ⟨b, rfl⟩ := nk_ref kk p1
    cases rx
    obtain ⟨hs, dd⟩ := dn_of I eH rx' nd ok
    refine wpAny_notIn_heap (dn_room hu) (nk_is I kk p1) hs dd ?_
    rw [rx'.isSome]
    exact ⟨.bl _, H, I.tok _, rfl, fin _ H (.bl _) h Gr.refl hr (by unfold Rp; rfl) (by simpa using q)⟩
  · unfold Rp at p2
    subst p2
    cases ry
    obtain ⟨vs, eH, rx'⟩ := hr.dK ea
    have ex := keyOf_rp ek p1
    refine L2.d_notIn (by omega) I (DGet.k (k := k) eH) (by rw [← ex]; exact rx) fun s' I' => ⟨.bl _, H, I', rfl, fin _ H (.bl _) h Gr.refl hr (by unfold Rp; rfl) ?_⟩
    rw [rx'.isSome]
    simpa using q
  · exact DL.d_notin hu pins s σ H x y v u Q I rx ry ⟨d, e, h, Q', hr, p1, p2, q, fin⟩
theorem d_ixE (hu : X.A.units + 65 < cLine) : IxR X (lR X.K X.mg rIxE) := by
  intro value slice pins s σ H x y v u Q I rx ry ⟨d, e, h, Q', hr, p1, p2, q, fin⟩ hsub
  rcases dctOf_of q with ⟨a, ep, kvs, rfl, ea, k, ek, kk, q⟩ | ⟨a, kvs, rfl, ea, k, ek, q⟩ | q
  · obtain ⟨z, ez, q⟩ := optAt_of q
    unfold Rp at p1
    subst p1
    cases rx
    obtain ⟨xs, eH, rx', sz, nd, ok⟩ := hr.dN ea
    rw [nkOf_eq ek] at p2
    obtain ⟨b, rfl⟩ := nk_ref kk p2
    cases ry
    obtain ⟨hs, dd⟩ := dn_of I eH rx' nd ok
    obtain ⟨c, w, w', e1, e2, e3⟩ := rx'.some_ ez
    exact tail_any dd.typeIs PySem.F.slot_dict_getitem.lookup (wpAny_getItem_heap (dn_room hu) (nk_is I kk p2) dd e1 ⟨w, H, I.tok _, e2, fin w H z h Gr.refl hr e3 q⟩) hsub
  · obtain ⟨z, ez, q⟩ := optAt_of q
    unfold Rp at p1
    subst p1
    cases rx
    obtain ⟨vs, eH, rx'⟩ := hr.dK ea
    have ex := keyOf_rp ek p2
    obtain ⟨w, e1, e3⟩ := rx'.some_ ez
    have g : DGet H a (kV k) (some w) := by rw [← e1]; exact DGet.k eH
    exact tail_any (dict_typeIs I g) PySem.F.slot_dict_getitem.lookup (L2.d_getItem (by omega) I g (by rw [← ex]; exact ry) fun w' s' I' r' => ⟨w, H, I', r', fin w H z h Gr.refl hr e3 q⟩) hsub
  · exact d_ix value slice pins s σ H x y v u Q I rx ry ⟨d, e, h, Q', hr, p1, p2, q, fin⟩ hsub
theorem setIxE (hu : X.A.units + 65 < cLine) : PSet X (lSet X.K X.mg rSetIxE) := by
  intro pins s σ H o i v ov iv u Q I ro ri rv hq
  obtain ⟨od, id, vd, h, Q', hr, po, pi, pv, q, fin⟩ := hq
  rcases dctOf_of q with ⟨a, ep, kvs, rfl, ea, k, ek, kk, sz, q⟩ | ⟨a, kvs, rfl, ea, k, ek, sz, q⟩ | q
  · unfold Rp at po
    subst po
    cases ro
    obtain ⟨xs, eH, rx', sz', nd, ok⟩ := hr.dN ea
    rw [nkOf_eq ek] at pi
    obtain ⟨b, rfl⟩ := nk_ref kk pi
    cases ri
    obtain ⟨hs, dd⟩ := dn_of I eH rx' nd ok
    refine wpAny_setItem_heap (hsz := by rw [rx'.length]; omega) (dn_room hu) (nk_is I kk pi) dd fun h' dd' sb => ?_
    obtain ⟨ep', I', g, r'⟩ := dn_write (t' := s.toks + (nestedKind X.prog X.w).draws k) I hr ea eH rx' nd ok hs kk pi rv pv sz dd' sb
    exact ⟨_, I', fin _ _ g r' (q ep')⟩
  · unfold Rp at po
    subst po
    cases ro
    obtain ⟨vs, eH, rx'⟩ := hr.dK ea
    have ex := keyOf_rp ek pi
    subst ex
    obtain ⟨g, r'⟩ := dk_write hr ea eH (rx'.put (k := k) pv)
    exact L2.d_setItem (by omega) I (DPut.k eH (by rw [rx'.length]; exact sz)) ri rv fun s' I' => ⟨_, I', fin _ _ g r' q⟩
  · exact setIx pins s σ H o i v ov iv u Q I ro ri rv ⟨od, id, vd, h, Q', hr, po, pi, pv, q, fin⟩
end
theorem de_ixE {X : Cx} {G : Option (Hp × DH)} {a b : Expr} {ta tb : DTE} {pos : Pos} (hu : X.A.units + 65 < cLine) (ha : DE X G a ta) (hb : DE X G b tb) (hp : PlainIx b) : DE X G (.Subscript a b pos) (dBin rIxE ta tb) :=
  PE.of (pe_ix (d_ixE hu) ha hb hp) fun σ H Q ⟨env, h, Q', g, er, hr, q, fin⟩ => two_of env h g er hr q fun x y H' d e h' k r1 p1 p2 q1 => ⟨d, e, h', Q', r1, p1, p2, q1, fun v H2 d2 h2 k2 r2 p q2 => fin v H2 d2 h2 (k.trans k2) r2 p q2⟩
/-! {} -/
def dNewN : DTE := fun _ h Q => ∀ p, h p = none → Q (.ref p) (up h p (.dN 0 []))
def dNewK : DTE := fun _ h Q => ∀ p, h p = none → Q (.ref p) (up h p (.dK []))
section
variable {X : Cx} {G : Option (Hp × DH)} {pos : Pos}
theorem dn_empty {P : Program} {w : World} (h : Heap) (hb : sysModules < h.objs.size) (H : Hp) : ObjOk P w H (h.push { cls := .type "dict", data := .dict #[] }) h.objs.size (dnO h.objs.size 0 []) :=
  ⟨⟨beq_eq_false_iff_ne.mpr (Ne.symm (Nat.ne_of_lt hb)), _, #[], Heap.get?_push_size _ rfl, ⟨rfl, rfl, rfl⟩, rfl, rfl⟩, ⟨_, Heap.get?_push_size _ rfl⟩, fun _ _ ⟨q0, o', es', q1, q2⟩ k => ⟨q0, o', es', k o' q1, q2⟩⟩
theorem pe_dnewN : PE X (.Dict [] [] pos) (fun _ H Q => ∀ p, H p = none → Q (.ref p) (upd H p (dnO p 0 []))) := ⟨fun pins s σ H Q I h =>
  wpAny_Dict_empty ⟨.ref s.heap.objs.size, _, I.laid (a := s.heap.objs.size) (o := dnO s.heap.objs.size 0 []) (t' := s.toks) (fun _ _ q => Heap.get?_push_of_some _ q) (Nat.le_refl _) (dn_empty s.heap I.big _), rfl, h _ (I.hok.fresh (Nat.le_refl _))⟩⟩
theorem de_newN : DE X G (.Dict [] [] pos) dNewN := PE.of pe_dnewN fun σ H Q ⟨env, h, Q', g, er, hr, q, fin⟩ p n => by
  have k : Gr X.K H h (upd H p (dnO p 0 [])) (up h p (.dN 0 [])) := Gr.new n
  exact fin (.ref p) _ (.ref p) _ k (hr.new (o := .dN 0 []) n ⟨[], upd_same, RpN.nil, Nat.zero_le _, List.nodup_nil, fun p hp => by cases hp⟩) (by unfold Rp; rfl) (q p (hr.free n))
theorem de_newK : DE X G (.Dict [] [] pos) dNewK := PE.of pe_dnewK fun σ H Q ⟨env, h, Q', g, er, hr, q, fin⟩ p n => by
  have k : Gr X.K H h (upd H p (.dK [])) (up h p (.dK [])) := Gr.new n
  exact fin (.ref p) _ (.ref p) _ k (hr.new (o := .dK []) n ⟨[], upd_same, RpK.nil⟩) (by unfold Rp; rfl) (q p (hr.free n))
end
/-! len -/
def rLenE : DRC := fun ds h Q => oneD ds fun d => dctOf d h (fun _ _ kvs => Q (.int kvs.length) h) (fun _ kvs => Q (.int kvs.length) h) (lenOf d h Q)
theorem d_lenE {X : Cx} : DCallR X (.builtin "len") rLenE := by
  intro pins s σ H vs us Q I rv ⟨ds, h, Q', hr, l, q, fin⟩
  obtain ⟨d, v, rfl, rfl, p, q⟩ := oneD_of q l
  rcases dctOf_of q with ⟨a, ep, kvs, rfl, ea, q⟩ | ⟨a, kvs, rfl, ea, q⟩ | q
  · unfold Rp at p
    subst p
    obtain ⟨u, rfl, ru⟩ := rv.one
    cases ru
    obtain ⟨xs, eH, rx', sz, nd, ok⟩ := hr.dN ea
    obtain ⟨hs, dd⟩ := dn_of I eH rx' nd ok
    refine call_len_dictH hs dd (by rw [rx'.length]; rw [sizeLine_eq] at sz; omega) ?_
    rw [rx'.length]
    exact ⟨.int _, H, I.tok _, ⟨_, rfl⟩, fin _ H (.int kvs.length) h Gr.refl hr (by unfold Rp; rfl) q⟩
  · unfold Rp at p
    subst p
    obtain ⟨ws, eH, rx'⟩ := hr.dK ea
    exact call_lenD pins s σ H _ us Q I rv ⟨a, ws, rfl, eH, by rw [rx'.length]; exact fin _ H (.int kvs.length) h Gr.refl hr (by unfold Rp; rfl) q⟩
  · exact d_len pins s σ H _ us Q I rv ⟨[d], h, Q', hr, l, q, fin⟩
end DL
set_option Elab.async false
set_option linter.all false
set_option maxRecDepth 100000
set_option maxHeartbeats 4000000
namespace DL
open PySem PySem.Spec PyProof.Rows L2
/-! ### methods of dicts -/
def DTy (X : Cx) (H : Hp) (a : Addr) : Prop := ∀ pins σ s, Inv X pins σ H s → s.TypeIs (.ref a) "dict" ∧ ∀ b, Value.ref a = .ref b → ∃ ob, s.heap.get? b = some ob ∧ ob.dict = none
section
variable {X : Cx} {H : Hp} {h : DH} {a : Addr}
theorem dty_n (hr : HR X.K X.mg H h) {ep : Nat} {kvs : List (NestedKey × D)} (ea : h a = some (.dN ep kvs)) : DTy X H a := fun pins σ s I => by
  obtain ⟨xs, eH, rx', sz, nd, ok⟩ := hr.dN ea
  obtain ⟨hs, es, ⟨o, h1, h2, h3⟩, h4⟩ := dn_raw I eH
  exact ⟨⟨o, h1, h2.1⟩, fun b e => by cases e; exact ⟨o, h1, h2.2.1⟩⟩
theorem dty_k (hr : HR X.K X.mg H h) {kvs : List (L2.Key × D)} (ea : h a = some (.dK kvs)) : DTy X H a := fun pins σ s I => by
  obtain ⟨vs, eH, rx'⟩ := hr.dK ea
  obtain ⟨t1, t2, _⟩ := isD_at I (.inl ⟨vs, .inl eH⟩)
  exact ⟨t1, t2⟩
end
/-- a method of a dict or of a list -/
def tDM (X : Cx) (rl rd : V → List V → Hp → VK → Prop) (to : TE) (t : TA) : TE := fun σ H Q => to σ H fun x H1 => ((∃ a, x = .ref a ∧ DTy X H1 a) ∧ t σ H1 fun vs H2 => rd x vs H2 Q) ∨ ((∃ a ys, x = .ref a ∧ SqL X.K H1 a ys) ∧ t σ H1 fun vs H2 => rl x vs H2 Q)
def noneR : V → List V → Hp → VK → Prop := fun _ _ _ _ => False
section
variable {X : Cx} {o e : Expr} {es : List Expr} {to : TE} {t : TA} {name : Str} {apos cpos : Pos} {idL idD : String} {rl rd : V → List V → Hp → VK → Prop}
/-- the list's side of such a method -/
structure LSide (X : Cx) (name : Str) (rl : V → List V → Hp → VK → Prop) : Prop where
  side : (∀ x vs H Q, rl x vs H Q → False) ∨ ∃ idL, Slot "list" name idL ∧ typeOf (.builtin idL) = pure (.type "method_descriptor") ∧ MtR X idL rl
theorem pe_dm (hl : (∃ idL, Slot "list" name idL ∧ typeOf (.builtin idL) = pure (.type "method_descriptor") ∧ MtR X idL rl)) (slot : Slot "dict" name idD) (hty : typeOf (.builtin idD) = pure (.type "method_descriptor")) (hm : MtR X idD rd) (ho : PE X o to) (ha : PA X (e :: es) t)
    (hbase : attributeBase o name X.env (eval o X.env) = eval o X.env)
    (hfew : ((backTo cpos (starEach (e :: es) X.env)).all (fun x => !x.1) && (backToKw cpos (keywordEach [] X.env)).all (fun x => x.1.isSome)
      && decide ((e :: es).length + ([] : List Keyword).length + (if ([] : List Keyword).isEmpty then 0 else 1) < 30)) = true)
    (hline : (apos.endLine == cpos.line) = true) (hs : starEach (e :: es) X.env = (false, eval e X.env) :: starEach es X.env) (hplain : (backTo cpos (starEach es X.env)).any (·.1) = false) :
    PE X (.Call (.Attribute o name apos) (e :: es) [] cpos) (tDM X rl rd to t) := by
  obtain ⟨idL, slotL, htyL, hmL⟩ := hl
  refine ⟨fun pins s σ H Q I h => ?_⟩
  refine wpAny_Call_method_late hbase hfew hline rfl (thn (ho.run pins s σ H _ I h) fun v s1 ⟨x, H1, I1, r1, q⟩ => ?_)
  rcases q with ⟨⟨a, rfl, ty⟩, q1⟩ | ⟨⟨a, ys, rfl, sq⟩, q1⟩
  · cases r1
    obtain ⟨h1, h2⟩ := ty pins σ s1 I1
    refine ⟨"dict", idD, PySem.F.plainAttrs_dict, slot, hty, h1, h2, ?_⟩
    have hA := ha.run cpos pins s1 σ H1 _ I1 q1
    rw [hs] at hA ⊢
    refine Calls.callWith_builtin (by show (false || (backTo cpos (starEach es X.env)).any (·.1)) = false; rw [hplain] <;> rfl) (Calls.evalArgs_plain ?_)
    exact thn hA fun us s2 ⟨vs, H2, I2, r2, q2⟩ => hm pins s2 σ H2 (.ref a) vs (.ref a) us Q I2 rfl r2 q2
  · obtain ⟨h1, h2⟩ := tyV_is (T := "list") (x := .ref a) I1 r1 (.inl ⟨rfl, ys, sq⟩)
    refine ⟨"list", idL, PySem.F.plainAttrs_list, slotL, htyL, h1, h2, ?_⟩
    have hA := ha.run cpos pins s1 σ H1 _ I1 q1
    rw [hs] at hA ⊢
    refine Calls.callWith_builtin (by show (false || (backTo cpos (starEach es X.env)).any (·.1)) = false; rw [hplain] <;> rfl) (Calls.evalArgs_plain ?_)
    exact thn hA fun us s2 ⟨vs, H2, I2, r2, q2⟩ => hmL pins s2 σ H2 (.ref a) vs v us Q I2 r1 r2 q2
theorem pe_dmo (slot : Slot "dict" name idD) (hty : typeOf (.builtin idD) = pure (.type "method_descriptor")) (hm : MtR X idD rd) (ho : PE X o to) (ha : PA X (e :: es) t)
    (hbase : attributeBase o name X.env (eval o X.env) = eval o X.env)
    (hfew : ((backTo cpos (starEach (e :: es) X.env)).all (fun x => !x.1) && (backToKw cpos (keywordEach [] X.env)).all (fun x => x.1.isSome)
      && decide ((e :: es).length + ([] : List Keyword).length + (if ([] : List Keyword).isEmpty then 0 else 1) < 30)) = true)
    (hline : (apos.endLine == cpos.line) = true) (hs : starEach (e :: es) X.env = (false, eval e X.env) :: starEach es X.env) (hplain : (backTo cpos (starEach es X.env)).any (·.1) = false) :
    PE X (.Call (.Attribute o name apos) (e :: es) [] cpos) (fun σ H Q => to σ H fun x H1 => (∃ a, x = .ref a ∧ DTy X H1 a) ∧ t σ H1 fun vs H2 => rd x vs H2 Q) := by
  refine ⟨fun pins s σ H Q I h => ?_⟩
  refine wpAny_Call_method_late hbase hfew hline rfl (thn (ho.run pins s σ H _ I h) fun v s1 ⟨x, H1, I1, r1, ⟨a, ex, ty⟩, q1⟩ => ?_)
  subst ex
  cases r1
  obtain ⟨h1, h2⟩ := ty pins σ s1 I1
  refine ⟨"dict", idD, PySem.F.plainAttrs_dict, slot, hty, h1, h2, ?_⟩
  have hA := ha.run cpos pins s1 σ H1 _ I1 q1
  rw [hs] at hA ⊢
  refine Calls.callWith_builtin (by show (false || (backTo cpos (starEach es X.env)).any (·.1)) = false; rw [hplain] <;> rfl) (Calls.evalArgs_plain ?_)
  exact thn hA fun us s2 ⟨vs, H2, I2, r2, q2⟩ => hm pins s2 σ H2 (.ref a) vs (.ref a) us Q I2 rfl r2 q2
end
def rGetD : DRM := fun o ds h Q => twoD ds fun d e => dctOf o h (fun _ _ kvs => ∃ k, nkOf d = some k ∧ kOk k = true ∧ Q ((valD kvs k).getD e) h) (fun _ kvs => ∃ k, keyOf d = some k ∧ Q ((valD kvs k).getD e) h) False
def rSetdD : DRM := fun o ds h Q => twoD ds fun d e => dctOf o h (fun _ _ _ => False) (fun a kvs => ∃ k, keyOf d = some k ∧ kvs.length < sizeLine ∧ (∀ v, valD kvs k = some v → Q v h) ∧ (valD kvs k = none → Q e (up h a (.dK (putE kvs k e))))) False
def rPopKD : DRM := fun o ds h Q => oneD ds fun d => dctOf o h (fun _ _ _ => False) (fun a kvs => ∃ k, keyOf d = some k ∧ optAt (valD kvs k) fun v => Q v (up h a (.dK (dropE kvs k)))) False
section
variable {X : Cx}
theorem d_get (hu : X.A.units + 65 < cLine) : MtR X "dict.get" (lM X.K X.mg rGetD) := by
  intro pins s σ H x vs v us Q I rx rs ⟨o, ds, h, Q', hr, po, l, q, fin⟩
  obtain ⟨d, e, w1, w2, rfl, rfl, p1, p2, q⟩ := twoD_of q l
  obtain ⟨u1, u2, rfl, ru1, ru2⟩ := rs.two
  rcases dctOf_of q with ⟨a, ep, kvs, rfl, ea, k, ek, kk, q⟩ | ⟨a, kvs, rfl, ea, k, ek, q⟩ | q
  · unfold Rp at po
    subst po
    cases rx
    obtain ⟨xs, eH, rx', sz, nd, ok⟩ := hr.dN ea
    rw [nkOf_eq ek] at p1
    obtain ⟨b, rfl⟩ := nk_ref kk p1
    cases ru1
    obtain ⟨hs, dd⟩ := dn_of I eH rx' nd ok
    refine call_meetsIn PySem.F.slot_dict_get dd.typeIs PySem.F.entry_dict_get (PySem.F.args_dict_get_3 _ _ _) (meetsH_dict_get_default (nestedKind X.prog X.w) a b hs u2) ⟨dn_room hu, k, xs, nk_is I kk p1, dd, ?_⟩
    cases ev : valD kvs k with
    | none =>
      rw [rx'.none_ ev]
      rw [ev] at q
      exact ⟨w2, H, I.tok _, ru2, fin w2 H e h Gr.refl hr p2 q⟩
    | some z =>
      obtain ⟨c, w, u, e1, e2, e3⟩ := rx'.some_ ev
      rw [e1]
      rw [ev] at q
      exact ⟨w, H, I.tok _, e2, fin w H z h Gr.refl hr e3 q⟩
  · unfold Rp at po
    subst po
    cases rx
    obtain ⟨vs, eH, rx'⟩ := hr.dK ea
    have ex := keyOf_rp ek p1
    subst ex
    refine d_get2 (by omega) I (DGet.k (k := k) eH) ru1 ru2 fun w' s' I' r' => ?_
    cases ev : valD kvs k with
    | none =>
      rw [rx'.none_ ev] at r'
      rw [ev] at q
      exact ⟨w2, H, I', r', fin w2 H e h Gr.refl hr p2 q⟩
    | some z =>
      obtain ⟨w, e1, e3⟩ := rx'.some_ ev
      rw [e1] at r'
      rw [ev] at q
      exact ⟨w, H, I', r', fin w H z h Gr.refl hr e3 q⟩
  · exact q.elim
theorem d_setdef : MtR X "dict.setdefault" (lM X.K X.mg rSetdD) := by
  intro pins s σ H x vs v us Q I rx rs ⟨o, ds, h, Q', hr, po, l, q, fin⟩
  obtain ⟨d, e, w1, w2, rfl, rfl, p1, p2, q⟩ := twoD_of q l
  obtain ⟨u1, u2, rfl, ru1, ru2⟩ := rs.two
  rcases dctOf_of q with ⟨a, ep, kvs, rfl, ea, q⟩ | ⟨a, kvs, rfl, ea, k, ek, sz, q1, q2⟩ | q
  · exact q.elim
  · unfold Rp at po
    subst po
    cases rx
    obtain ⟨vs, eH, rx'⟩ := hr.dK ea
    have ex := keyOf_rp ek p1
    subst ex
    refine d_setd (k := k) (d := w2) I eH ru1 ru2 (by rw [rx'.length]; exact sz) (fun v' hv w' s' I' r' => ?_) fun hn w' s' I' r' => ?_
    · cases ev : valD kvs k with
      | none => rw [rx'.none_ ev] at hv; cases hv
      | some z =>
        obtain ⟨w, e1, e3⟩ := rx'.some_ ev
        rw [hv] at e1
        cases e1
        exact ⟨_, H, I', r', fin _ H z h Gr.refl hr e3 (q1 z ev)⟩
    · have ev : valD kvs k = none := by
        cases ev : valD kvs k with
        | none => rfl
        | some z => obtain ⟨w, e1, e3⟩ := rx'.some_ ev; rw [hn] at e1; cases e1
      obtain ⟨g, r2⟩ := dk_write hr ea eH (rx'.put (k := k) p2)
      exact ⟨_, _, I', r', fin _ _ e _ g r2 (Rp.mono g _ _ p2) (q2 ev)⟩
  · exact q.elim
theorem d_popK : MtR X "dict.pop" (lM X.K X.mg rPopKD) := by
  intro pins s σ H x vs v us Q I rx rs ⟨o, ds, h, Q', hr, po, l, q, fin⟩
  obtain ⟨d, w1, rfl, rfl, p1, q⟩ := oneD_of q l
  obtain ⟨u1, rfl, ru1⟩ := rs.one
  rcases dctOf_of q with ⟨a, ep, kvs, rfl, ea, q⟩ | ⟨a, kvs, rfl, ea, k, ek, q⟩ | q
  · exact q.elim
  · obtain ⟨z, ez, q⟩ := optAt_of q
    unfold Rp at po
    subst po
    cases rx
    obtain ⟨vs, eH, rx'⟩ := hr.dK ea
    have ex := keyOf_rp ek p1
    subst ex
    obtain ⟨w, e1, e3⟩ := rx'.some_ ez
    obtain ⟨g, r2⟩ := dk_write hr ea eH (rx'.drop (k := k))
    exact L2.d_pop (more := []) I eH ru1 e1 (.inl rfl) fun w' s' I' r' => ⟨w, _, I', r', fin w _ z _ g r2 (Rp.mono g _ _ e3) q⟩
  · exact q.elim
end
/-- .. of a dict, of a list -/
def dMethE (rL rD : DRM) (to : DTE) (t : DTA) : DTE := fun env h Q => to env h fun o h1 => dctOf o h1 (fun _ _ _ => t env h1 fun ds h2 => rD o ds h2 Q) (fun _ _ => t env h1 fun ds h2 => rD o ds h2 Q) (asLl o h1 fun _ => t env h1 fun ds h2 => rL o ds h2 Q)
def dMethD (rD : DRM) (to : DTE) (t : DTA) : DTE := fun env h Q => to env h fun o h1 => dctOf o h1 (fun _ _ _ => t env h1 fun ds h2 => rD o ds h2 Q) (fun _ _ => t env h1 fun ds h2 => rD o ds h2 Q) False
section
variable {X : Cx} {G : Option (Hp × DH)} {o e : Expr} {es : List Expr} {to : DTE} {t : DTA} {name : Str} {apos cpos : Pos} {idL idD : String} {rL rD : DRM}
theorem args_fin {H H1 : Hp} {h h1 : DH} {σ : L2.St} {env : DEnv} {d : D} {x : V} {r : DRM} {Q : VK} {Q' : DK} (g : anc X.K G H h) (er : ER X.K H env σ) (k1 : Gr X.K H h H1 h1) (r1 : HR X.K X.mg H1 h1) (p1 : Rp X.K H1 d x) (q : t env h1 fun ds h2 => r d ds h2 Q')
    (fin : ∀ v H' d h', Gr X.K H h H' h' → HR X.K X.mg H' h' → Rp X.K H' d v → Q' d h' → Q v H') : lA X.K X.mg G t σ H1 fun vs H2 => lM X.K X.mg r x vs H2 Q :=
  ⟨env, h1, _, g.on k1, er.mono k1, r1, q, fun us H2 es2 h2 k2 r2 p2 q3 => ⟨d, es2, h2, Q', r2, Rp.mono k2 _ _ p1, p2, q3, fun v H3 d3 h3 k3 r3 p3 q4 => fin v H3 d3 h3 (k1.trans (k2.trans k3)) r3 p3 q4⟩⟩
theorem de_methE (slotL : Slot "list" name idL) (htyL : typeOf (.builtin idL) = pure (.type "method_descriptor")) (hmL : MtR X idL (lM X.K X.mg rL)) (slot : Slot "dict" name idD) (hty : typeOf (.builtin idD) = pure (.type "method_descriptor")) (hm : MtR X idD (lM X.K X.mg rD)) (ho : DE X G o to) (ha : DA X G (e :: es) t)
    (hbase : attributeBase o name X.env (eval o X.env) = eval o X.env)
    (hfew : ((backTo cpos (starEach (e :: es) X.env)).all (fun x => !x.1) && (backToKw cpos (keywordEach [] X.env)).all (fun x => x.1.isSome)
      && decide ((e :: es).length + ([] : List Keyword).length + (if ([] : List Keyword).isEmpty then 0 else 1) < 30)) = true)
    (hline : (apos.endLine == cpos.line) = true) (hs : starEach (e :: es) X.env = (false, eval e X.env) :: starEach es X.env) (hplain : (backTo cpos (starEach es X.env)).any (·.1) = false) :
    DE X G (.Call (.Attribute o name apos) (e :: es) [] cpos) (dMethE rL rD to t) :=
  PE.of (pe_dm ⟨idL, slotL, htyL, hmL⟩ slot hty hm ho ha hbase hfew hline hs hplain) fun σ H Q ⟨env, h, Q', g, er, hr, q, fin⟩ => ⟨env, h, _, g, er, hr, q, fun x H1 d h1 k1 r1 p1 q1 => by
    rcases dctOf_of q1 with ⟨a, ep, kvs, rfl, ea, q2⟩ | ⟨a, kvs, rfl, ea, q2⟩ | q2
    · exact .inl ⟨⟨a, by unfold Rp at p1; exact p1, dty_n r1 ea⟩, args_fin g er k1 r1 p1 q2 fin⟩
    · exact .inl ⟨⟨a, by unfold Rp at p1; exact p1, dty_k r1 ea⟩, args_fin g er k1 r1 p1 q2 fin⟩
    · obtain ⟨l, ds, vs, e0, e2, l1, q3⟩ := asLl_of q2 p1 r1
      exact .inr ⟨⟨l, vs, e0, .inl e2⟩, args_fin g er k1 r1 p1 q3 fin⟩⟩
theorem de_methD (slot : Slot "dict" name idD) (hty : typeOf (.builtin idD) = pure (.type "method_descriptor")) (hm : MtR X idD (lM X.K X.mg rD)) (ho : DE X G o to) (ha : DA X G (e :: es) t)
    (hbase : attributeBase o name X.env (eval o X.env) = eval o X.env)
    (hfew : ((backTo cpos (starEach (e :: es) X.env)).all (fun x => !x.1) && (backToKw cpos (keywordEach [] X.env)).all (fun x => x.1.isSome)
      && decide ((e :: es).length + ([] : List Keyword).length + (if ([] : List Keyword).isEmpty then 0 else 1) < 30)) = true)
    (hline : (apos.endLine == cpos.line) = true) (hs : starEach (e :: es) X.env = (false, eval e X.env) :: starEach es X.env) (hplain : (backTo cpos (starEach es X.env)).any (·.1) = false) :
    DE X G (.Call (.Attribute o name apos) (e :: es) [] cpos) (dMethD rD to t) :=
  PE.of (pe_dmo slot hty hm ho ha hbase hfew hline hs hplain) fun σ H Q ⟨env, h, Q', g, er, hr, q, fin⟩ => ⟨env, h, _, g, er, hr, q, fun x H1 d h1 k1 r1 p1 q1 => by
    rcases dctOf_of q1 with ⟨a, ep, kvs, rfl, ea, q2⟩ | ⟨a, kvs, rfl, ea, q2⟩ | q2
    · exact ⟨⟨a, by unfold Rp at p1; exact p1, dty_n r1 ea⟩, args_fin g er k1 r1 p1 q2 fin⟩
    · exact ⟨⟨a, by unfold Rp at p1; exact p1, dty_k r1 ea⟩, args_fin g er k1 r1 p1 q2 fin⟩
    · exact q2.elim⟩
end
/-! ### a dict walked -/
/-- the keys of the dict at a, while it stands as it is -/
def Itn (a : Addr) (ep n : Nat) : It :=
  ⟨fun i H => ∃ xs, H a = some (dnO a ep xs) ∧ xs.length = n ∧ i < n, fun i H x H' => H' = H ∧ ∀ xs, H a = some (dnO a ep xs) → ∃ e, xs[i]? = some e ∧ x = .ref e.2.1, fun i H => ∃ xs, H a = some (dnO a ep xs) ∧ xs.length = n ∧ n ≤ i⟩
theorem es_at {es : Array DictEntry} {xs : List (NestedKey × Addr × Value)} (h : es.toList = xs.map dnE) (j : Nat) : es[j]? = (xs[j]?).map dnE := by
  rw [← Array.getElem?_toList, h, List.getElem?_map]
theorem es_size {es : Array DictEntry} {xs : List (NestedKey × Addr × Value)} (h : es.toList = xs.map dnE) : es.size = xs.length := by
  rw [← Array.length_toList, h, List.length_map]
theorem turn_n {P : Program} {w : World} {K : PySem.W.Frag} {tg : Expr} (a it : Addr) (ep n : Nat) : Turn P w K tg (Itn a ep n) [it] it (fun i h => h.IsKeyIter it a i n ep) where
  mem := by simp
  obj := fun i h st b hb => by
    have e : b = it := by simpa using hb
    subst e
    obtain ⟨oi, e, c, dd⟩ := st
    exact ⟨oi, e, fun v z => by rw [dd] at z; cases z⟩
  keep := fun i h h' st k => st.at fun oi e => k it (by simp) oi e
  item := by
    intro X hP hw hK hc i pins s σ H E I hf st hg
    subst hP hw hK
    obtain ⟨xs, hd, hn, hi⟩ := hg
    obtain ⟨f0, f1, f2, f3, f4, f5⟩ := hf it (by simp)
    obtain ⟨hs, es, hm, hes⟩ := dn_raw I hd
    have hsz : es.size = n := by rw [es_size hes]; exact hn
    have hlt : i < es.size := by omega
    have hx : i < xs.length := by omega
    have ei : es[i] = dnE xs[i] := by
      have := es_at hes i
      rw [Array.getElem?_eq_getElem hlt, List.getElem?_eq_getElem hx] at this
      exact Option.some.inj this
    refine wpAny_pyNext_keys_item_raw (by rw [hsz]; exact st) hm hlt fun h' st' sb => ?_
    have I1 : Inv X pins σ H { s with heap := h' } := I.turned (t' := s.toks) (fun b ob hb e => (sb.2 b hb).trans e) f0 f1 f3 f4 f5
    obtain ⟨oi, e, c, dd⟩ := id st'
    refine ⟨es[i].key, rfl, go_of (s := { s with heap := h' }) e c dd (by decide) ⟨.ref xs[i].2.1, H, I1, by rw [ei]; rfl, ⟨rfl, fun ys hy => ?_⟩, by rw [hsz] at st'; exact st', fun b hb => (hf b hb).1⟩⟩
    obtain ⟨_, es2, hm2, hes2⟩ := dn_raw I hy
    obtain ⟨o1, g1, _, g2⟩ := hm
    obtain ⟨o2, g3, _, g4⟩ := hm2
    rw [g1] at g3
    cases g3
    rw [g2] at g4
    cases g4
    have ey := es_at hes2 i
    rw [Array.getElem?_eq_getElem hlt, ei] at ey
    obtain ⟨y, hy1, hy2⟩ := Option.map_eq_some_iff.mp ey.symm
    refine ⟨y, hy1, ?_⟩
    unfold dnE at hy2
    have e4 : Value.ref y.2.1 = Value.ref xs[i].2.1 := congrArg DictEntry.key hy2
    rw [Value.ref.inj e4]
  done := by
    intro X hP hw hK hc i pins s σ H E I hf st hg
    subst hP hw hK
    obtain ⟨xs, hd, hn, hi⟩ := hg
    obtain ⟨f0, f1, f2, f3, f4, f5⟩ := hf it (by simp)
    obtain ⟨hs, es, hm, hes⟩ := dn_raw I hd
    have hsz : es.size = n := by rw [es_size hes]; exact hn
    exact wpAny_pyNext_keys_end_raw (I.ok.hd hc) (by rw [hsz]; exact st) hm (by omega) fun h' eb => ⟨rfl, I.turned (t' := s.toks) (fun b ob hb e => eb b ob hb e) f0 f1 f3 f4 f5⟩
  self := fun A i s Q E st h => wpAny_pyIter_keyiter st h
def keysN (kvs : List (NestedKey × D)) : List D := kvs.map fun p => ofNk p.1
theorem it_n {K : PySem.W.Frag} {mg : Str → Option Value} {H1 : Hp} {h0 : DH} {a : Addr} {ep : Nat} {kvs : List (NestedKey × D)} : ItOk K mg H1 h0 (Itn a ep kvs.length) (keysN kvs) fun h => h a = some (.dN ep kvs) := by
  have hl : (keysN kvs).length = kvs.length := by simp [keysN]
  refine ⟨fun i H h k hr c hi => ?_, fun i H h x H' k hr c hi y => ?_, fun H h k hr c => ?_⟩
  · obtain ⟨xs, eH, rx, _⟩ := hr.dN c
    exact ⟨xs, eH, rx.length, by omega⟩
  · obtain ⟨xs, eH, rx, _⟩ := hr.dN c
    obtain ⟨rfl, y⟩ := y
    obtain ⟨e, e1, rfl⟩ := y xs eH
    obtain ⟨d, v, e2, r0, _⟩ := rx.at_ e1
    refine ⟨Gr.refl, hr, ofNk e.1, ?_, r0⟩
    unfold keysN
    rw [List.getElem?_map, e2]
    rfl
  · obtain ⟨xs, eH, rx, _⟩ := hr.dN c
    exact ⟨xs, eH, rx.length, by omega⟩
def asItE (d : D) (h : DH) (k : List D → (DH → Prop) → Prop) : Prop := dctOf d h (fun a ep kvs => k (keysN kvs) fun h' => h' a = some (.dN ep kvs)) (fun _ _ => False) (asIt d h k)
def dItE (t : DTE) : DTI := fun env h Q => t env h fun d h1 => asItE d h1 fun ds chk => Q ds chk h1
section
variable {X : Cx} {G : Option (Hp × DH)} {tg l : Expr} {t : DTE}
theorem di_anyE (hl : DE X G l t) : DI X G tg l (dItE t) := by
  refine ⟨fun pins s σ H R I q => ?_⟩
  obtain ⟨env, h, Q', g, er, hr, q, fin⟩ := q
  refine thn (hl.run pins s σ H _ I ⟨env, h, _, g, er, hr, q, fun v H1 d h1 k r p q1 => (⟨d, h1, k, r, p, q1⟩ : ∃ d h1, Gr X.K H h H1 h1 ∧ HR X.K X.mg H1 h1 ∧ Rp X.K H1 d v ∧ asItE d h1 fun ds chk => Q' ds chk h1)⟩) fun v s1 ⟨x, H1, I1, r1, d, h1, k, hr1, p, q1⟩ => ?_
  rcases dctOf_of q1 with ⟨a, ep, kvs, rfl, ea, q2⟩ | ⟨a, kvs, rfl, ea, q2⟩ | q2
  · unfold Rp at p
    subst p
    cases r1
    obtain ⟨xs, eH, rx, _⟩ := hr1.dN ea
    obtain ⟨hs, es, hm, hes⟩ := dn_raw I1 eH
    have hsz : es.size = kvs.length := by rw [es_size hes, rx.length]
    refine wpAny_pyIter_dict_raw hs hm ?_
    refine pi_one (tk := s1.toks) I1 _ (turn_n a _ ep kvs.length) ?_ (fin (Itn a ep kvs.length) H1 (keysN kvs) _ h1 k hr1 it_n q2)
    refine ⟨_, Heap.get?_push_size _ rfl, rfl, ?_⟩
    rw [hsz]
    rfl
  · exact q2.elim
  · exact pie_any I1 r1 hr1 p q2 fun J items chk ok q => fin J H1 items chk h1 k hr1 ok q
end
end DL
set_option Elab.async false
set_option linter.all false
set_option maxRecDepth 100000
set_option maxHeartbeats 4000000
namespace DL
open PySem PySem.Spec PyProof.Rows L2
/-! ### list(d) -/
theorem call_list_n {X : Cx} (hc : X.calm = true) : CallR X (.type "list") (fun xs H Q => ∃ (a : Addr) (ep : Nat) (ys : List (NestedKey × Addr × Value)), xs = [.ref a] ∧ H a = some (dnO a ep ys) ∧ ys.length ≤ sizeLine ∧ ∀ l, H l = none → Q (.ref l) (upd H l (.lst (ys.map fun e => V.ref e.2.1)))) := by
  intro pins s σ H xs us Q I r h
  obtain ⟨a, ep, ys, rfl, hH, hz, q⟩ := h
  obtain ⟨u, rfl, rx⟩ := vals1 r
  cases rx
  obtain ⟨hs, es, hm, hes⟩ := dn_raw I hH
  have hsz := es_size hes
  refine PySem.W.kdl_call (KdlSrc.rawDict hs) (I.ok.hd hc) hm (by rw [hsz]; exact hz) fun h' tk acc' c' hk hS' hacc => ?_
  have e0 : acc'.toList.length = ys.length := by rw [Array.length_toList, hacc.1, hsz]
  have rv : Vals (ys.map fun e => V.ref e.2.1) acc'.toList := by
    have key : ∀ (j : Nat) v, acc'.toList[j]? = some v → ∃ y, ys[j]? = some y ∧ v = .ref y.2.1 := fun j v hj => by
      obtain ⟨hi, rfl⟩ := hacc.2 j v (by rw [← Array.getElem?_toList]; exact hj)
      have := es_at hes j
      rw [Array.getElem?_eq_getElem hi] at this
      obtain ⟨y, e1, e2⟩ := Option.map_eq_some_iff.mp this.symm
      exact ⟨y, e1, by rw [← e2]; rfl⟩
    clear hacc hS' hsz hes hm hz hH q
    generalize acc'.toList = l at e0 key
    induction ys generalizing l with
    | nil =>
      cases l with
      | nil => exact .nil
      | cons x l => simp at e0
    | cons y ys ih =>
      cases l with
      | nil => simp at e0
      | cons x l =>
        obtain ⟨z, e1, e2⟩ := key 0 x rfl
        simp at e1
        subst e1
        exact .cons e2 (ih l (by simpa using e0) fun j v hj => by
          obtain ⟨z, e1, e2⟩ := key (j + 1) v (by simpa using hj)
          exact ⟨z, by simpa using e1, e2⟩)
  exact ⟨.ref s.heap.objs.size, _, I.laid (a := s.heap.objs.size) (t' := tk) hk (Nat.le_refl _) (show ObjOk X.prog X.w _ h' _ (.lst (ys.map fun e => V.ref e.2.1)) from ⟨by rw [List.length_map]; exact hz, acc'.toList, c', rv, by simpa using hS'⟩), rfl, q _ (I.hok.fresh (Nat.le_refl _))⟩
theorem RpN.keysL {K : PySem.W.Frag} {H : Hp} : ∀ {kvs : List (NestedKey × D)} {xs : List (NestedKey × Addr × Value)}, RpN K H kvs xs → RpL K H (keysN kvs) (xs.map fun e => V.ref e.2.1)
  | [], vs, r => by unfold RpN at r; subst r; exact RpL.nil
  | p :: ps, vs, r => by
    unfold RpN at r
    obtain ⟨b, v, u, t, rfl, r0, r1, r2, r3⟩ := r
    exact RpL.cons r0 (RpN.keysL r3)
def dListOfE (t : DTE) : DTA := fun env h Q => t env h fun d h1 => dctOf d h1 (fun _ _ kvs => Q (keysN kvs) h1) (fun _ _ => False) (asSq d h1 fun ds => Q ds h1)
section
variable {X : Cx} {G : Option (Hp × DH)} {p pos : Pos} {a : Expr} {ta : DTE}
theorem dl_listE (hc : X.calm = true) (hg : Gl X "list") (hm : X.mg "list" = none) (ha : DE X G a ta) (he : starEach [a] X.env = (false, eval a X.env) :: starEach [] X.env) (hpl : (backTo pos (starEach [] X.env)).any (·.1) = false := by rfl) : DLs X G (.Call (.Name "list" p) [a] [] pos) (dListOfE ta) :=
  PE.of (pe_callTy (CallR.or (call_list_n hc) call_list_of) hg hm (by decide +kernel) (pa_cons ha pa_nil he) (by decide) (by decide) he hpl) fun σ H Q ⟨env, h, Q', g, er, hr, q, fin⟩ => ⟨env, h, _, g, er, hr, q, fun v H1 d h1 k1 r1 p1 q1 => by
    rcases dctOf_of q1 with ⟨a, ep, kvs, rfl, ea, q2⟩ | ⟨a, kvs, rfl, ea, q2⟩ | q2
    · unfold Rp at p1
      subst p1
      obtain ⟨xs, eH, rx, sz, nd, ok⟩ := r1.dN ea
      exact .inl ⟨a, ep, xs, rfl, eH, by rw [rx.length]; exact sz, fun l n => fin l _ (keysN kvs) _ h1 (k1.trans (Gr.under n)) (r1.under n) upd_same (RpL.monoT (TK.new n) _ _ rx.keysL) (r1.free n) (fun u e z => by rw [(k1.fr l u e z).1] at n; cases n) q2⟩
    · exact q2.elim
    · obtain ⟨a, es, ws, rfl, sq, l2, q3⟩ := asSq_of q2 p1 r1
      exact .inr ⟨a, ws, rfl, sq, fun p n => fin p _ es ws h1 (k1.trans (Gr.under n)) (r1.under n) upd_same (RpL.monoT (TK.new n) _ _ l2) (r1.free n) (fun u e z => by rw [(k1.fr p u e z).1] at n; cases n) q3⟩⟩
end
/-! ### min(d), min(l) -/
theorem call_min_k {X : Cx} (hc : X.calm = true) : CallR X (.builtin "min") (fun xs H Q => ∃ (a : Addr) (kvs : List (L2.Key × V)) (is : List Int), xs = [.ref a] ∧ H a = some (.dK kvs) ∧ kvs.map (·.1) = is.map Sum.inl ∧ is ≠ [] ∧ ∀ m, m ∈ is → (∀ j ∈ is, m ≤ j) → Q (.int m) H) := by
  intro pins s1 σ H1 xs us Q I1 r h
  obtain ⟨a, kvs, is, rfl, ha, hv, hne, q⟩ := h
  obtain ⟨u, rfl, rx⟩ := vals1 r
  cases rx
  obtain ⟨_, hsys, vs, rel, dof⟩ := dk_of I1.hok ha
  obtain ⟨es, ep, hm, hsz, he⟩ := dof.raw
  have hkv : kvs.length = vs.length := rel.length
  have hl : es.size = is.length := by
    have e1 := congrArg List.length hv
    rw [List.length_map, List.length_map] at e1
    omega
  have hlen : 0 < es.size := by rw [hl]; exact List.length_pos_iff.mpr hne
  have hval : ∀ (i : Nat) (v : Value), (∃ hi : i < es.size, v = es[i].key) → ∃ t, v = Value.int (is.getD i 0) t := fun i v ⟨hi, e⟩ => by
    have hi2 : i < vs.length := by omega
    obtain ⟨k1, _⟩ := he i hi vs[i].1 vs[i].2 (by rw [List.getElem?_eq_getElem hi2])
    have ek : vs.map (·.1) = is.map Sum.inl := by rw [← rel.keys]; exact hv
    have e2 : (vs.map (·.1))[i]? = some vs[i].1 := by rw [List.getElem?_map, List.getElem?_eq_getElem hi2]; rfl
    rw [ek, List.getElem?_map] at e2
    obtain ⟨j, hj, e3⟩ := Option.map_eq_some_iff.mp e2
    rw [← e3] at k1
    have k2 : keyIs (.inl j) es[i].key = true := k1
    obtain ⟨t, e4⟩ := Value.isInt_shape (k := j) (v := es[i].key) k2
    refine ⟨t, ?_⟩
    rw [e, e4, List.getD_eq_getElem?_getD, hj]
    rfl
  have hlt : a < s1.heap.objs.size := by obtain ⟨o, e, _⟩ := hm; exact Heap.lt_size e
  refine call_min_walk (wpAny_pyIter_dict_raw hsys hm ?_)
  refine ⟨_, _, _, _, _, _, _, rfl, Walks.rawKeys (A := X.A.in1) (I1.ok.hd hc) s1.heap.objs.size a (Nat.ne_of_lt hlt) es ep, ⟨⟨_, Heap.get?_push_size _ rfl, rfl, rfl⟩, hm.at fun o e => Heap.get?_push_of_some _ e⟩, fun b hb => ?_, hlen, CmpOf.ints_lt (fun i => is.getD i 0) hval, fun v h' tk hP hk => ?_⟩
  · show b < (s1.heap.push _).objs.size
    rw [Heap.size_push]
    rcases List.mem_cons.mp hb with e | hb
    · rw [e]; exact Nat.lt_succ_self _
    · have e : b = a := List.mem_singleton.mp hb
      rw [e]; exact Nat.lt_succ_of_lt hlt
  · obtain ⟨t, rfl⟩ := hval _ v hP
    obtain ⟨b1, b2⟩ := argBest_lt (fun i => is.getD i 0) (es.size - 1)
    refine ⟨.int _, H1, I1.kept (t' := tk) fun b u e => hk b u (fun hmem => ?_) (Heap.get?_push_of_some _ e), ⟨t, rfl⟩, q _ ?_ fun j hj => ?_⟩
    · have e1 : b = s1.heap.objs.size := List.mem_singleton.mp hmem
      have e2 := Heap.lt_size e
      rw [e1] at e2
      exact absurd e2 (Nat.lt_irrefl _)
    · have hb : argBest (fun i j => decide (is.getD i 0 < is.getD j 0)) (es.size - 1) < is.length := by omega
      rw [List.getD_eq_getElem?_getD, List.getElem?_eq_getElem hb]
      exact List.getElem_mem hb
    · obtain ⟨i, hi, e⟩ := List.mem_iff_getElem.mp hj
      have e2 : is.getD i 0 = j := by
        rw [List.getD_eq_getElem?_getD, List.getElem?_eq_getElem hi, ← e]
        rfl
      rw [← e2]
      exact b2 i (by omega)
/-- the least of some -/
def leastOf (is : List Int) (k : Int → Prop) : Prop := is ≠ [] ∧ ∀ m, m ∈ is → (∀ j ∈ is, m ≤ j) → k m
def rMin1 : DRC := fun ds h Q => oneD ds fun d => dctOf d h (fun _ _ _ => False) (fun _ kvs => ∃ is : List Int, kvs.map (·.1) = is.map Sum.inl ∧ leastOf is fun m => Q (.int m) h) (asLl d h fun xs => ∃ is : List Int, xs = is.map .int ∧ leastOf is fun m => Q (.int m) h)
theorem RpK.keys {K : PySem.W.Frag} {H : Hp} : ∀ {kvs : List (L2.Key × D)} {vs : List (L2.Key × V)}, RpK K H kvs vs → vs.map (·.1) = kvs.map (·.1)
  | [], vs, r => by unfold RpK at r; subst r; rfl
  | p :: ps, vs, r => by
    unfold RpK at r
    obtain ⟨v, t, rfl, r1, r2⟩ := r
    rw [List.map_cons, List.map_cons, RpK.keys r2]
theorem d_min1 {X : Cx} (hc : X.calm = true) : DCallR X (.builtin "min") rMin1 := by
  intro pins s σ H vs us Q I rv ⟨ds, h, Q', hr, l, q, fin⟩
  obtain ⟨d, v, rfl, rfl, p, q⟩ := oneD_of q l
  rcases dctOf_of q with ⟨a, ep, kvs, rfl, ea, q⟩ | ⟨a, kvs, rfl, ea, is, ek, hn, q⟩ | q
  · exact q.elim
  · unfold Rp at p
    subst p
    obtain ⟨ws, eH, rx'⟩ := hr.dK ea
    exact call_min_k hc pins s σ H _ us Q I rv ⟨a, ws, is, rfl, eH, by rw [rx'.keys]; exact ek, hn, fun m hm hj => fin _ H (.int m) h Gr.refl hr (by unfold Rp; rfl) (q m hm hj)⟩
  · obtain ⟨a, xs, ws, rfl, e, l2, is, rfl, hn, q2⟩ := asLl_of q p hr
    exact cr_min hc pins s σ H _ us Q I rv ⟨a, is, rfl, by rw [← l2.ints]; exact .inl e, List.length_pos_iff.mpr hn, fun m hm hj => fin _ H (.int m) h Gr.refl hr (by unfold Rp; rfl) (q2 m hm hj)⟩
/-! ### d != {} -/
theorem op_ne_nil {X : Cx} (hu : X.A.units < cLine) : OpR X (compareOp .NotEq) (fun x y H Q => ∃ a b kvs, x = .ref a ∧ y = .ref b ∧ H a = some (.dK kvs) ∧ H b = some (.dK []) ∧ Q (.bl (!kvs.isEmpty)) H) := by
  intro pins s σ H x y v u Q I rx ry h
  obtain ⟨a, b, ks, rfl, rfl, ea, eb, q⟩ := h
  obtain rfl : v = Value.ref a := rx
  obtain rfl : u = Value.ref b := ry
  obtain ⟨_, ya, va, ra, da⟩ := (show ObjOk X.prog X.w H s.heap a (.dK ks) from I.hok a _ ea)
  obtain ⟨_, yb, vb, rb, db⟩ := (show ObjOk X.prog X.w H s.heap b (.dK []) from I.hok b _ eb)
  cases rb
  refine PySem.W.keq_ne (knd := mixKind X.prog X.w) (r := true) ya yb da db hu (fun hl => ?_) (fin_bl I q ?_)
  · cases va with
    | nil => exact .nil
    | cons _ _ => cases hl
  · cases ra with
    | nil => rfl
    | cons _ _ => rfl
def dNeD (t : DTE) : DTE := fun env h Q => t env h fun d h1 => dctOf d h1 (fun _ _ _ => False) (fun _ kvs => Q (.bl (!kvs.isEmpty)) h1) False
theorem de_neD {X : Cx} {G : Option (Hp × DH)} {a : Expr} {ta : DTE} {pos p2 : Pos} (hu : X.A.units + 65 < cLine) (ha : DE X G a ta) : DE X G (.Compare a [.NotEq] [.Dict [] [] p2] pos) (dNeD ta) :=
  PE.of (pe_cmpR (op_ne_nil (by omega)) ha pe_dnewK rfl) fun σ H Q ⟨env, h, Q', g, er, hr, q, fin⟩ => ⟨env, h, _, g, er, hr, q, fun v H1 d h1 k1 r1 p1 q1 p n => by
    rcases dctOf_of q1 with ⟨a, ep, kvs, rfl, ea, q2⟩ | ⟨a, kvs, rfl, ea, q2⟩ | q2
    · exact q2.elim
    · unfold Rp at p1
      subst p1
      obtain ⟨ws, eH, rx'⟩ := r1.dK ea
      have e : kvs.isEmpty = ws.isEmpty := by
        have := rx'.length
        cases kvs <;> cases ws <;> first | rfl | (simp at this)
      have np : a ≠ p := ne_of_none eH n
      refine ⟨a, p, ws, rfl, rfl, by rw [upd_ne np]; exact eH, upd_same, ?_⟩
      rw [← e]
      exact fin _ _ (.bl (!kvs.isEmpty)) h1 (k1.trans (Gr.under n)) (r1.under n) (by unfold Rp; rfl) q2
    · exact q2.elim⟩
theorem dt_neD {X : Cx} {G : Option (Hp × DH)} {a : Expr} {ta : DTE} {pos p2 : Pos} (hu : X.A.units + 65 < cLine) (ha : DE X G a ta) : DT X G (.Compare a [.NotEq] [.Dict [] [] p2] pos) (dB (dNeD ta)) :=
  PT.of (pt_cmpR (op_ne_nil (by omega)) ha pe_dnewK rfl) fun σ H Q ⟨env, h, Q', g, er, hr, q, fin⟩ => ⟨env, h, _, g, er, hr, q, fun v H1 d h1 k1 r1 p1 q1 p n => by
    rcases dctOf_of q1 with ⟨a, ep, kvs, rfl, ea, q2⟩ | ⟨a, kvs, rfl, ea, q2⟩ | q2
    · exact q2.elim
    · unfold Rp at p1
      subst p1
      obtain ⟨ws, eH, rx'⟩ := r1.dK ea
      have e : kvs.isEmpty = ws.isEmpty := by
        have := rx'.length
        cases kvs <;> cases ws <;> first | rfl | (simp at this)
      have np : a ≠ p := ne_of_none eH n
      refine ⟨a, p, ws, rfl, rfl, by rw [upd_ne np]; exact eH, upd_same, _, rfl, ?_⟩
      rw [← e]
      exact fin (!kvs.isEmpty) _ h1 (k1.trans (Gr.under n)) (r1.under n) q2
    · exact q2.elim⟩
/-! ### {k: v, ..} -/
def dPairs : List (L2.Key × DTE) → DEnv → DH → (List (L2.Key × D) → DH → Prop) → Prop
  | [], _, h, Q => Q [] h
  | (k, t) :: r, env, h, Q => t env h fun d h1 => dPairs r env h1 fun kvs h2 => Q ((k, d) :: kvs) h2
def mergeE {κ : Type} [DecidableEq κ] (kvs : List (κ × D)) : List (κ × D) := kvs.foldl (fun acc p => putE acc p.1 p.2) []
def dDisp (ps : List (L2.Key × DTE)) : DTE := fun env h Q => ∀ p, h p = none → dPairs ps env (up h p (.dK [])) fun kvs h2 => h2 p = some (.dK []) ∧ Q (.ref p) (up h2 p (.dK (mergeE kvs)))
theorem RpK.merge {K : PySem.W.Frag} {H : Hp} : ∀ {more : List (L2.Key × D)} {ms : List (L2.Key × V)} {kvs : List (L2.Key × D)} {vs : List (L2.Key × V)}, RpK K H more ms → RpK K H kvs vs → RpK K H (more.foldl (fun acc p => putE acc p.1 p.2) kvs) (mergeK vs ms)
  | [], ms, kvs, vs, r, r0 => by unfold RpK at r; subst r; exact r0
  | p :: ps, ms, kvs, vs, r, r0 => by
    unfold RpK at r
    obtain ⟨v, t, rfl, r1, r2⟩ := r
    exact RpK.merge (more := ps) (ms := t) r2 (r0.put r1)
section
variable {X : Cx} {G : Option (Hp × DH)} {pos : Pos}
def trsOf (X : Cx) (G : Option (Hp × DH)) (ps : List (L2.Key × DTE)) : List (TE × TE) := ps.map fun p => (tC (kV p.1), lE X.K X.mg G p.2)
theorem pairs_of {σ : L2.St} : ∀ {ps : List (L2.Key × DTE)} {H : Hp} {env : DEnv} {h : DH} {R : List (V × V) → Hp → Prop} {R' : List (L2.Key × D) → DH → Prop}, anc X.K G H h → ER X.K H env σ → HR X.K X.mg H h → dPairs ps env h R' →
    (∀ (vs : List (L2.Key × V)) H' kvs h', Gr X.K H h H' h' → HR X.K X.mg H' h' → RpK X.K H' kvs vs → kvs.length = ps.length → R' kvs h' → R (vs.map fun kv => (kV kv.1, kv.2)) H') → tPairs (trsOf X G ps) σ H R
  | [], H, env, h, R, R', g, er, hr, q, fin => fin [] H [] h Gr.refl hr RpK.nil rfl q
  | (k, t) :: r, H, env, h, R, R', g, er, hr, q, fin => by
    show lE X.K X.mg G t σ H fun y H2 => tPairs (trsOf X G r) σ H2 fun ps H3 => R ((kV k, y) :: ps) H3
    refine ⟨env, h, _, g, er, hr, q, fun v H1 d h1 k1 r1 p1 q1 => ?_⟩
    refine pairs_of (g.on k1) (er.mono k1) r1 q1 fun vs H' kvs h' k2 r2 p2 hl q2 => ?_
    exact fin ((k, v) :: vs) H' ((k, d) :: kvs) h' (k1.trans k2) r2 (by unfold RpK; exact ⟨v, vs, rfl, Rp.mono k2 _ _ p1, p2⟩) (by simp [hl]) q2
theorem de_disp {keys : List (Option Expr)} {values : List Expr} {ps : List (L2.Key × DTE)} (h : PPs X pos keys values (trsOf X G ps)) (hall : keys.all (·.isSome) = true) (hl : keys.length = values.length) (h0 : keys ≠ []) (h15 : keys.length ≤ 15) (hp : ps.length ≤ 15) : DE X G (.Dict keys values pos) (dDisp ps) :=
  PE.of (pe_disp h hall hl h0 h15) fun σ H Q ⟨env, h, Q', g, er, hr, q, fin⟩ p n => by
    have k : Gr X.K H h (upd H p (.dK [])) (up h p (.dK [])) := Gr.new n
    have r : HR X.K X.mg (upd H p (.dK [])) (up h p (.dK [])) := hr.new (o := .dK []) n ⟨[], upd_same, RpK.nil⟩
    refine pairs_of (g.on k) (er.mono k) r (q p (hr.free n)) fun vs H' kvs h' k2 r2 p2 hl2 ⟨e2, q2⟩ => ?_
    obtain ⟨ws, eH, rx⟩ := r2.dK e2
    unfold RpK at rx
    subst rx
    obtain ⟨g3, r3⟩ := dk_write r2 e2 eH (RpK.merge p2 RpK.nil)
    refine ⟨eH, vs, rfl, by rw [p2.length, hl2]; exact hp, ?_⟩
    exact fin _ _ (.ref p) _ ((k.trans k2).trans g3) r3 (by unfold Rp; rfl) q2
end
/-! ### dict([(k, v), ..]) -/
theorem RpN.mergeH {K : PySem.W.Frag} {H : Hp} : ∀ {more : List (NestedKey × D)} {us : List (NestedKey × Addr × Value)} {kvs : List (NestedKey × D)} {xs : List (NestedKey × Addr × Value)}, RpN K H more us → RpN K H kvs xs → RpN K H (more.foldl (fun acc p => putE acc p.1 p.2) kvs) (storedAllH xs us)
  | [], ms, kvs, vs, r, r0 => by unfold RpN at r; subst r; exact r0
  | p :: ps, ms, kvs, vs, r, r0 => by
    unfold RpN at r
    obtain ⟨b, v, u, t, rfl, r1, r2, r3, r4⟩ := r
    exact RpN.mergeH (more := ps) (us := t) r4 (r0.put r1 r2 r3)
def rDictD : DRC := fun ds h Q => ∃ kvs : List (NestedKey × D), ds = kvs.map (fun p => .tup [ofNk p.1, p.2]) ∧ (∀ p ∈ kvs, kOk p.1 = true) ∧ kvs.length ≤ sizeLine ∧ ∀ p ep, h p = none → Q (.ref p) (up h p (.dN ep (mergeE kvs)))
/-- the pairs of a list -/
theorem pairs_us {X : Cx} {pins : List (Addr × Obj)} {σ : L2.St} {H : Hp} {s : Shared} (I : Inv X pins σ H s) : ∀ {kvs : List (NestedKey × D)} {vs : List V} {its : List Value}, (∀ p ∈ kvs, kOk p.1 = true) → RpL X.K H (kvs.map fun p => D.tup [ofNk p.1, p.2]) vs → Vals vs its →
    ∃ (us : List (NestedKey × Addr × Value)) (ts : List Addr), RpN X.K H kvs us ∧ its = ts.map Value.ref ∧ ts.length = us.length ∧ ∀ (i : Nat) x t, us[i]? = some x → ts[i]? = some t → s.heap.IsTuple t #[.ref x.2.1, x.2.2]
  | [], vs, its, ok, r, rv => by
    rw [List.map_nil] at r
    unfold RpL at r
    subst r
    cases rv
    exact ⟨[], [], RpN.nil, rfl, rfl, fun i x t e => by simp at e⟩
  | p :: ps, vs, its, ok, r, rv => by
    rw [List.map_cons] at r
    unfold RpL at r
    obtain ⟨v, t, rfl, r1, r2⟩ := r
    cases rv with
    | @cons _ w _ ws e1 e2 =>
      obtain ⟨us, ts, q1, q2, q3, q4⟩ := pairs_us I (fun p hp => ok p (List.mem_cons_of_mem _ hp)) r2 e2
      unfold Rp at r1
      obtain ⟨a, xs, rfl, st, l⟩ := r1
      cases e1
      obtain ⟨v1, v2, rfl, p1, p2⟩ := l.two
      obtain ⟨its', rv', ip, _⟩ := I.tuple st
      obtain ⟨u1, u2, rfl, e3, e4⟩ := rv'.two
      obtain ⟨b, rfl⟩ := nk_ref (ok p (List.mem_cons_self ..)) p1
      cases e3
      refine ⟨(p.1, b, u2) :: us, a :: ts, by unfold RpN; exact ⟨b, v2, u2, us, rfl, p1, e4, p2, q1⟩, by rw [q2]; rfl, by simp [q3], fun i x t ex et => ?_⟩
      cases i with
      | zero =>
        simp at ex et
        subst ex et
        exact ip
      | succ i => exact q4 i x t (by simpa using ex) (by simpa using et)
theorem mergeE_keys {kvs : List (NestedKey × D)} (ok : ∀ p ∈ kvs, kOk p.1 = true) : ∀ acc : List (NestedKey × D), (acc.map (·.1)).Nodup → (∀ p ∈ acc, kOk p.1 = true) → let r := kvs.foldl (fun acc p => putE acc p.1 p.2) acc
    (r.map (·.1)).Nodup ∧ (∀ p ∈ r, kOk p.1 = true) ∧ r.length ≤ acc.length + kvs.length := by
  induction kvs with
  | nil => exact fun acc n o => ⟨n, o, by simp⟩
  | cons p ps ih =>
    intro acc n o
    have h := ih (fun q hq => ok q (List.mem_cons_of_mem _ hq)) (putE acc p.1 p.2) (nodup_putE n) (fun q hq => by
      rcases mem_putE hq with e | e
      · rw [e]; exact ok p (List.mem_cons_self ..)
      · exact o q e)
    refine ⟨h.1, h.2.1, ?_⟩
    have := h.2.2
    have := length_putE acc p.1 p.2
    simp only [List.foldl_cons, List.length_cons] at *
    omega
section
variable {X : Cx} {G : Option (Hp × DH)} {p pos : Pos} {a : Expr} {ta : DTA}
/-- what dict(l) gives -/
def rvDict (X : Cx) : List V → Hp → VK → Prop := fun xs H Q => ∃ (a : Addr) (vs : List V) (kvs : List (NestedKey × D)), xs = [.ref a] ∧ SqL X.K H a vs ∧ RpL X.K H (kvs.map fun p => D.tup [ofNk p.1, p.2]) vs ∧ (∀ p ∈ kvs, kOk p.1 = true) ∧ kvs.length ≤ sizeLine ∧
  ∀ l ep us, H l = none → RpN X.K H kvs us → Q (.ref l) (upd H l (dnO l ep (storedAllH [] us)))
theorem call_dict_n (hc : X.calm = true) (hu : X.A.units + 65 < cLine) : CallR X (.type "dict") (rvDict X) := by
  intro pins s σ H xs uz Q I r h
  obtain ⟨a, vs, kvs, rfl, sq, l, ok, hz, q⟩ := h
  obtain ⟨u, rfl, rx⟩ := vals1 r
  cases rx
  obtain ⟨its, rv, pl, hz2⟩ := I.list sq
  obtain ⟨us, ts, rn, rfl, el, tt⟩ := pairs_us I ok l rv
  have okx := rn.ok ok
  obtain ⟨o, n, ho, hc1, hd1, hdt⟩ := pl
  have hsys : (s.heap.objs.size == sysModules) = false := beq_eq_false_iff_ne.mpr (Ne.symm (Nat.ne_of_lt I.big))
  have ul : us.length ≤ sizeLine := by rw [rn.length]; exact hz
  refine call_dict_pairsH (knd := nestedKind X.prog X.w) (ps := us) (PairArg.list a (ts.map Value.ref).toArray (fun j => ts.getD j 0) (us.map fun x => (Value.ref x.2.1, x.2.2))) (I.ok.hd hc) (by show X.A.units + 1 + 1 + 8 < cLine; omega)
    ⟨⟨o, n, ho, hc1, hd1, hdt⟩, by simp [el], fun j k v hj => ?_⟩ ⟨by simp, fun i key v hi => ?_⟩ (fun h' hk x hx => ?_) (by simpa using ul) fun h' tk hd' hk => ?_
  · rw [List.getElem?_map] at hj
    obtain ⟨x, e1, e2⟩ := Option.map_eq_some_iff.mp hj
    have hlt : j < ts.length := by rw [el]; exact (List.getElem?_eq_some_iff.mp e1).1
    have et : ts[j]? = some ts[j] := List.getElem?_eq_getElem hlt
    have ed : ts.getD j 0 = ts[j] := by rw [List.getD_eq_getElem?_getD, et]; rfl
    cases e2
    refine ⟨?_, ?_⟩
    · show (List.map Value.ref ts).toArray[j]? = some (Value.ref (ts.getD j 0))
      rw [ed]; simp [et]
    · show PairAt s.heap (ts.getD j 0) _ _
      rw [ed]; exact .inl (tt j x ts[j] e1 et)
  · unfold PairRel at hi
    rw [List.getElem?_map] at hi
    obtain ⟨x, e1, e2⟩ := Option.map_eq_some_iff.mp hi
    cases e2
    exact ⟨x.1, x.2.1, e1, rfl⟩
  · obtain ⟨i, hi⟩ := List.mem_iff_getElem?.mp hx
    obtain ⟨d, v, e1, r0, _⟩ := rn.at_ hi
    refine nestedKind_stays.stays (fun b o _ _ e _ => hk b o (Nat.ne_of_lt (Heap.lt_size e)) (fun z => nomatch z) e) (nk_is I (okx x hx) r0)
  · have rm := RpN.mergeH (kvs := []) rn RpN.nil
    obtain ⟨m1, m2, m3⟩ := mergeE_keys ok [] List.nodup_nil (fun p hp => by cases hp)
    obtain ⟨ep, oo⟩ := dn_ok hsys hd' (rm.ok m2)
    exact ⟨.ref s.heap.objs.size, _, I.laid (a := s.heap.objs.size) (t' := tk) (fun b o e => hk b o (fun z => nomatch z) e) (Nat.le_refl _) (oo _), rfl, q _ ep us (I.hok.fresh (Nat.le_refl _)) rn⟩
theorem dq_dict (hc : X.calm = true) (hu : X.A.units + 65 < cLine) (hg : Gl X "dict") (hm : X.mg "dict" = none) (ha : DQ X G a ta) (he : starEach [a] X.env = (false, eval a X.env) :: starEach [] X.env) (hpl : (backTo pos (starEach [] X.env)).any (·.1) = false := by rfl) : DE X G (.Call (.Name "dict" p) [a] [] pos) (dLq rDictD ta) :=
  dq_call (f := .type "dict") (pe_callTy (call_dict_n hc hu) hg hm (by decide +kernel) (pa_cons ha pa_nil he) (by decide) (by decide) he hpl) fun l H h ds vs Q Q' hr e l1 ⟨kvs, ed, ok, hz, q⟩ fin => by
    subst ed
    refine ⟨l, vs, kvs, rfl, e, l1, ok, hz, fun p ep us n rn => ?_⟩
    obtain ⟨m1, m2, m3⟩ := mergeE_keys ok [] List.nodup_nil (fun p hp => by cases hp)
    have k : Gr X.K H h (upd H p (dnO p ep (storedAllH [] us))) (up h p (.dN ep (mergeE kvs))) := Gr.new n
    refine fin (.ref p) _ (.ref p) _ k (hr.new (o := .dN ep (mergeE kvs)) n ⟨_, upd_same, RpN.monoT k.tk _ _ (RpN.mergeH (kvs := []) rn RpN.nil), ?_, m1, m2⟩) (by unfold Rp; rfl) (q p ep (hr.free n))
    simp only [List.length_nil, Nat.zero_add] at m3
    exact Nat.le_trans m3 hz
end
end DL
set_option Elab.async false
set_option linter.all false
set_option maxRecDepth 100000
set_option maxHeartbeats 400000
namespace DL
open PySem PySem.Spec PyProof.Rows L2
/-! ### o[i], x = e -/
def two2 (d : D) (k : D → D → Prop) : Prop := match d with
  | .tup [v, w] => k v w
  | _ => False
theorem two2_of {K : PySem.W.Frag} {H : Hp} {d : D} {v : V} {k : D → D → Prop} (q : two2 d k) (p : Rp K H d v) : ∃ a x y dv dw, v = .ref a ∧ SqT K H a [x, y] ∧ Rp K H dv x ∧ Rp K H dw y ∧ k dv dw := by
  unfold two2 at q
  split at q
  · rename_i dv dw
    unfold Rp at p
    obtain ⟨a, vs, rfl, hs, hl⟩ := p
    unfold RpL at hl
    obtain ⟨v1, t, rfl, z1, hl⟩ := hl
    unfold RpL at hl
    obtain ⟨v2, t, rfl, z2, hl⟩ := hl
    unfold RpL at hl
    subst hl
    exact ⟨a, v1, v2, dv, dw, rfl, hs, z1, z2, q⟩
  · exact q.elim
def dSetUnp (r : DSet) (tv to ti : DTE) (j : Nat) : DTS := fun E env h => tv env h fun d h1 => two2 d fun v w => to env h1 fun o h2 => ti env h2 fun i h3 => r o i v h3 fun h4 => E.nx (env.set j (some w)) h4
section
variable {X : Cx} {G : Option (Hp × DH)} {pos p2 : Pos} {e o i : Expr} {tv to ti : DTE} {r : DSet}
theorem pg_two {x : Str} {px p3 : Pos} {k j : Nat} {to ti : TE} {t : TSet} (hc : X.calm = true) (hset : PSet X t) (ho : PE X o to) (hi : PE X i ti) (hg : PG X (.Name x px) (gName j))
    (ha : ∀ v, assign (.Subscript o i p2) X.env v = (do
      let ov ← holding [v] (eval o X.env)
      let iv ← holding [v, ov] (eval i X.env)
      standAt p2
      holding [v, ov, iv] (setItem ov iv v)
      release [v, ov, iv] [])) : PG X (.Tuple [.Subscript o i p2, .Name x px] k p3) (gTup X.K 2 (gCons (gSub to ti t) (gCons (gName j) gNil))) :=
  pg_tup (n := 2) hc (pgs_cons (pg_sub ho hi hset ha) (pgs_cons hg pgs_nil rfl) rfl) rfl rfl
theorem ds_setUnp {x : Str} {px p3 : Pos} {k j : Nat} (hc : X.calm = true) (hset : PSet X (lSet X.K X.mg r)) (he : DE X G e tv) (ho : DE X G o to) (hi : DE X G i ti) (hg : PG X (.Name x px) (gName j))
    (ha : ∀ v, assign (.Subscript o i p2) X.env v = (do
      let ov ← holding [v] (eval o X.env)
      let iv ← holding [v, ov] (eval i X.env)
      standAt p2
      holding [v, ov, iv] (setItem ov iv v)
      release [v, ov, iv] []))
    (hs : swapsWithSole [.Tuple [.Subscript o i p2, .Name x px] k p3] e pos.line X.env = pure false) (hw : swappedStores [.Tuple [.Subscript o i p2, .Name x px] k p3] e X.env = pure none) : DS X G (.Assign [.Tuple [.Subscript o i p2, .Name x px] k p3] e pos) (dSetUnp r tv to ti j) := by
  have ps := ps_asg he (pg_two (k := k) (p3 := p3) hc hset ho hi hg ha) hs hw rfl
  refine PS.of ps ?_
  rintro E σ H ⟨env, h, E', g, er, hr, q, nx, _⟩
  refine ⟨env, h, _, g, er, hr, q, ?_⟩
  intro v H1 d h1 k1 r1 p1 q1
  obtain ⟨a, v1, v2, dv, dw, rfl, hs, z1, z2, q1⟩ := two2_of q1 p1
  refine ⟨a, [v1, v2], rfl, hs, rfl, v1, [v2], rfl, ?_⟩
  refine ⟨env, h1, _, g.on k1, er.mono k1, r1, q1, ?_⟩
  intro vo H2 dO h2 k2 r2 p2 q2
  refine ⟨env, h2, _, g.on (k1.trans k2), er.mono (k1.trans k2), r2, q2, ?_⟩
  intro vi H3 di h3 k3 r3 p3 q3
  refine ⟨dO, di, dv, h3, _, r3, Rp.mono k3 _ _ p2, p3, Rp.mono (k2.trans k3) _ _ z1, q3, ?_⟩
  intro H4 h4 k4 r4 q4
  exact ⟨v2, [], rfl, rfl, nx _ H4 _ h4 (k1.trans (k2.trans (k3.trans k4))) ((er.mono (k1.trans (k2.trans (k3.trans k4)))).set j (Rp.mono (k2.trans (k3.trans k4)) _ _ z2)) r4 q4⟩
end
end DL
set_option Elab.async false
set_option linter.all false
set_option maxRecDepth 100000
set_option maxHeartbeats 400000
namespace DL
open PySem PySem.Spec PyProof.Rows L2
/-! ### a + b, a * n of lists, the new list told -/
def dCatEE (ta tb : DTE) : DTA := fun env h Q => ta env h fun d h1 => tb env h1 fun e h2 => asLl d h2 fun xs => asLl e h2 fun ys => xs.length + ys.length ≤ sizeLine ∧ Q (xs ++ ys) h2
def dMulEE (ta tb : DTE) : DTA := fun env h Q => ta env h fun d h1 => tb env h1 fun e h2 => asLl d h2 fun xs => asI e fun k => (-(2 ^ 63) ≤ k ∧ k < 2 ^ 63 ∧ xs.length * k.toNat ≤ sizeLine) ∧ Q (List.replicate k.toNat xs).flatten h2
section
variable {X : Cx} {G : Option (Hp × DH)} {pos : Pos}
theorem dl_catEE {a b : Expr} {ta tb : DTE} (ha : DE X G a ta) (hb : DE X G b tb) : DLs X G (.BinOp a .Add b pos) (dCatEE ta tb) :=
  PE.of (pe_op op_catR ha hb) fun σ H Q ⟨env, h, Q', g, er, hr, q, fin⟩ => ⟨env, h, _, g, er, hr, q, fun v H1 d h1 k1 r1 p1 q1 => ⟨env, h1, _, g.on k1, er.mono k1, r1, q1, fun u H2 e h2 k2 r2 p2 q2 => by
    obtain ⟨l, xs, vs, rfl, f1, l1, q3⟩ := asLl_of q2 (Rp.mono k2 _ _ p1) r2
    obtain ⟨m, ys, us, rfl, f2, l2, q4⟩ := asLl_of q3 p2 r2
    exact cat_fin (k1.trans k2) r2 f1 f2 l1 l2 q4 fin⟩⟩
theorem dl_mulEE {a b : Expr} {ta tb : DTE} (ha : DE X G a ta) (hb : DE X G b tb) : DLs X G (.BinOp a .Mult b pos) (dMulEE ta tb) :=
  PE.of (pe_op op_repR ha hb) fun σ H Q ⟨env, h, Q', g, er, hr, q, fin⟩ => ⟨env, h, _, g, er, hr, q, fun v H1 d h1 k1 r1 p1 q1 => ⟨env, h1, _, g.on k1, er.mono k1, r1, q1, fun u H2 e h2 k2 r2 p2 q2 => by
    obtain ⟨l, xs, vs, rfl, f1, l1, q3⟩ := asLl_of q2 (Rp.mono k2 _ _ p1) r2
    obtain ⟨k, rfl, rfl, q4⟩ := asI_of q3 p2
    exact ⟨l, k, vs, rfl, rfl, f1, q4.1.1, q4.1.2.1, by rw [l1.length]; exact q4.1.2.2, fun p n => fin p _ (List.replicate k.toNat xs).flatten (List.replicate k.toNat vs).flatten h2 ((k1.trans k2).trans (Gr.under n)) (r2.under n) upd_same (RpL.monoT (TK.new n) _ _ (l1.rep _)) (r2.free n) (fun u e z => by rw [((k1.trans k2).fr p u e z).1] at n; cases n) q4.2⟩⟩⟩
end
/-- the new list of an operation -/
def opT : Operator → Option (DTE → DTE → DTA)
  | .Add => some dCatEE
  | .Mult => some dMulEE
  | _ => none
theorem dl_opT {X : Cx} {G : Option (Hp × DH)} {pos : Pos} {o : Operator} {a b : Expr} {ta tb : DTE} {r : DTE → DTE → DTA} (h : opT o = some r) (ha : DE X G a ta) (hb : DE X G b tb) : DLs X G (.BinOp a o b pos) (r ta tb) := by
  cases o <;> first | (cases h; done) | (cases h; first | exact dl_catEE ha hb | exact dl_mulEE ha hb)
end DL
set_option Elab.async false
set_option linter.all false
set_option maxRecDepth 100000
set_option maxHeartbeats 4000000
namespace DL
open PySem PySem.Spec PyProof.Rows L2
/-! ### sorted -/
def sortE (xs : List (D × PyData)) : List D := (xs.mergeSort (PySem.W.dataLe false (·.2))).map (·.1)
def SortOk (ps : List PyData) : Prop := PySem.W.AllAlike ps ∧ PySem.W.Sortable ps ∧ ∀ p ∈ ps, p.depth ≤ 60
def dSorted (t : DTA) : DTA := fun env h Q => t env h fun ds h1 => ∃ xs : List (D × PyData), ds = xs.map (·.1) ∧ (∀ x ∈ xs, Dd h1 x.1 x.2) ∧ SortOk (xs.map (·.2)) ∧ ds.length ≤ sizeLine ∧ Q (sortE xs) h1
def rvSort (X : Cx) : List V → Hp → VK → Prop := fun vs H Q => ∃ (a : Addr) (zs : List (V × PyData)), vs = [.ref a] ∧ SqL X.K H a (zs.map (·.1)) ∧ (∀ z ∈ zs, Dp X.K H z.1 z.2) ∧ SortOk (zs.map (·.2)) ∧ zs.length ≤ sizeLine ∧ ∀ p, H p = none → Q (.ref p) (upd H p (.lst ((zs.mergeSort (PySem.W.dataLe false (·.2))).map (·.1))))
theorem each_zip {X : Cx} {pins : List (Addr × Obj)} {σ : L2.St} {H : Hp} {s : Shared} (I : Inv X pins σ H s) : ∀ {zs : List (V × PyData)} {us : List Value}, (∀ z ∈ zs, Dp X.K H z.1 z.2) → Vals (zs.map (·.1)) us →
    PySem.W.EachIs (fun (u : Value) (b : V × PyData) => RelV b.1 u) us zs ∧ PySem.W.EachIs (fun (u : Value) (b : V × PyData) => ∃ as, Reads s.heap u b.2 as) us zs
  | [], _, _, rv => by cases rv; exact ⟨.nil, .nil⟩
  | z :: zs, _, h, rv => by
    cases rv with
    | cons r rv =>
      obtain ⟨a, b⟩ := each_zip I (fun y hy => h y (List.mem_cons_of_mem _ hy)) rv
      exact ⟨.cons r a, .cons (Dp.reads I _ _ _ (h z (List.mem_cons_self ..)) r) b⟩
theorem vals_each : ∀ {zs : List (V × PyData)} {us : List Value}, PySem.W.EachIs (fun (u : Value) (b : V × PyData) => RelV b.1 u) us zs → Vals (zs.map (·.1)) us
  | _, _, .nil => .nil
  | _, _, .cons a b => .cons a (vals_each b)
theorem cr_sortK {X : Cx} (hu : X.A.units + 65 < cLine) : CallR X (.builtin "sorted") (rvSort X) := by
  intro pins s σ H vs us Q I r ⟨a, zs, e, hs, hd, ⟨h1, h2, h3⟩, hz, q⟩
  subst e
  obtain ⟨its, rv, hl, _⟩ := I.list hs
  obtain ⟨u, rfl, ru⟩ := vals1 r
  obtain rfl : u = Value.ref a := ru
  obtain ⟨e1, e2⟩ := each_zip I hd rv
  refine PySem.W.sorted_data hl.isList e1 e2 h1 h2 hz (fun b hb => by have := h3 b.2 (List.mem_map.mpr ⟨b, hb, rfl⟩); omega) fun out ho ee => ?_
  obtain ⟨c, hc⟩ := sortedAll_at s.heap its out.toArray
  have vo := vals_each ee
  have nd : H (s.heap.objs.size + 1) = none := I.hok.fresh (Nat.le_succ _)
  refine ⟨.ref (s.heap.objs.size + 1), _, I.laid (a := s.heap.objs.size + 1) (t' := s.toks) (fun _ _ => sortedAll_old) (Nat.le_succ _) ?_, rfl, q _ nd⟩
  show ObjOk X.prog X.w _ _ _ (.lst _)
  exact ⟨by rw [List.length_map, (List.mergeSort_perm ..).length_eq]; exact hz, out, _, vo, hc⟩
theorem sort_map {α β : Type} (f : α → β) (e : α → PyData) (e' : β → PyData) (h : ∀ a, e' (f a) = e a) (l : List α) : (l.mergeSort (PySem.W.dataLe false e)).map f = (l.map f).mergeSort (PySem.W.dataLe false e') := by
  refine List.map_mergeSort fun a _ b _ => ?_
  rw [PySem.W.dataLe_eq, PySem.W.dataLe_eq]
  simp only [h]
theorem dl_sorted {X : Cx} {G : Option (Hp × DH)} {a : Expr} {ta : DTA} {p pos : Pos} (hu : X.A.units + 65 < cLine) (hg : Gl X "sorted") (hm : X.mg "sorted" = none) (ha : DQ X G a ta) (he : starEach [a] X.env = (false, eval a X.env) :: starEach [] X.env := by rfl) (hpl : (backTo pos (starEach [] X.env)).any (·.1) = false := by rfl) :
    DLs X G (.Call (.Name "sorted" p) [a] [] pos) (dSorted ta) :=
  PE.of (pe_callB (cr_sortK hu) hg hm (by decide +kernel) (pa_cons ha pa_nil he) (by decide) (by decide) he hpl) fun σ H Q ⟨env, h, Q', g, er, hr, q, fin⟩ => ⟨env, h, _, g, er, hr, q, fun l H1 ds vs h1 k1 r1 e1 l1 q1 => by
    obtain ⟨xs, rfl, dd, ok, sz, q2⟩ := q1
    have tr : ∀ {xs : List (D × PyData)} {vs : List V}, (∀ x ∈ xs, Dd h1 x.1 x.2) → RpL X.K H1 (xs.map (·.1)) vs → ∃ T : List (D × V × PyData), xs = T.map (fun t => (t.1, t.2.2)) ∧ vs = T.map (fun t => t.2.1) ∧ ∀ t ∈ T, Rp X.K H1 t.1 t.2.1 := fun {xs} => by
      induction xs with
      | nil =>
        intro vs _ l
        rw [List.map_nil] at l
        unfold RpL at l
        exact ⟨[], rfl, by rw [l]; rfl, fun t ht => (by cases ht)⟩
      | cons x xs ih =>
        intro vs dd l
        rw [List.map_cons] at l
        unfold RpL at l
        obtain ⟨v, w, rfl, p, l⟩ := l
        obtain ⟨T, e1, e2, e3⟩ := ih (fun y hy => dd y (List.mem_cons_of_mem _ hy)) l
        refine ⟨(x.1, v, x.2) :: T, by rw [e1]; rfl, by rw [e2]; rfl, fun t ht => ?_⟩
        rcases List.mem_cons.mp ht with rfl | ht
        · exact p
        · exact e3 t ht
    obtain ⟨T, rfl, rfl, rp⟩ := tr dd l1
    refine ⟨l, T.map fun t => (t.2.1, t.2.2), rfl, by rw [List.map_map]; exact e1, fun z hz => ?_, by rw [List.map_map] at ok ⊢; exact ok, by rw [List.length_map] at sz ⊢; rw [List.length_map] at sz; exact sz, fun p n => ?_⟩
    · obtain ⟨t, ht, rfl⟩ := List.mem_map.mp hz
      exact Dd.dp r1 _ _ _ (dd (t.1, t.2.2) (List.mem_map.mpr ⟨t, ht, rfl⟩)) (rp t ht)
    · have f1 := sort_map (fun t : D × V × PyData => (t.2.1, t.2.2)) (fun t => t.2.2) (fun b => b.2) (fun _ => rfl) T
      have f2 := sort_map (fun t : D × V × PyData => (t.1, t.2.2)) (fun t => t.2.2) (fun b => b.2) (fun _ => rfl) T
      rw [← f1, List.map_map]
      have e3 : sortE (T.map fun t => (t.1, t.2.2)) = (T.mergeSort (PySem.W.dataLe false fun t => t.2.2)).map (·.1) := by
        unfold sortE
        rw [← f2, List.map_map]
        rfl
      rw [e3] at q2
      have g2 : Gr X.K H1 h1 (upd H1 p (.lst ((T.mergeSort (PySem.W.dataLe false fun t => t.2.2)).map fun t => t.2.1))) h1 := Gr.under n
      refine fin p _ ((T.mergeSort (PySem.W.dataLe false fun t => t.2.2)).map (·.1)) ((T.mergeSort (PySem.W.dataLe false fun t => t.2.2)).map fun t => t.2.1) h1 (k1.trans g2) (r1.under n) upd_same ?_ (r1.free n) (fun u e z => by rw [(k1.fr p u e z).1] at n; cases n) q2
      have all : ∀ t ∈ T.mergeSort (PySem.W.dataLe false fun t => t.2.2), Rp X.K H1 t.1 t.2.1 := fun t ht => rp t (List.mem_mergeSort.mp ht)
      generalize T.mergeSort (PySem.W.dataLe false fun t => t.2.2) = S at all g2
      clear f1 f2 e3 q2 rp dd ok sz l1 e1
      refine RpL.mono g2 _ _ ?_
      clear g2
      induction S with
      | nil => exact RpL.nil
      | cons t S ih => exact RpL.cons (all t (List.mem_cons_self ..)) (ih fun y hy => all y (List.mem_cons_of_mem _ hy))⟩
/-! ### isinstance(e, (C, D)) of exceptions -/
def isiX2 (l : List Str) (cn cm : Str) : D → DH → DK → Prop
  | .exc nm _, h, Q => l.contains nm = true ∧ Q (.bl (subC nm cn || subC nm cm)) h
  | .non, h, Q => Q (.bl false) h
  | _, _, _ => False
def dIsX2 (l : List Str) (cn cm : Str) (t : DTE) : DTE := fun env h Q => t env h fun d h1 => isiX2 l cn cm d h1 Q
theorem call_isXT {X : Cx} {l : List Str} (T : ClsOk X.K l) : CallR X (.builtin "isinstance") (fun xs H Q => ∃ (a : Addr) (nm : Str) (fs : List (Str × Int)) (tp : Addr) (cs : List V) (us : List Value) (b : Bool), xs = [.ref a, .ref tp] ∧ XcAt X.K H nm fs a ∧ nm ∈ l ∧ H tp = some (.tup cs) ∧ Paired ClsV cs us ∧ PySem.W.kitAny X.K (.ref (He.ga X.K nm)) us = some b ∧ Q (.bl b) H) := by
  intro pins s σ H xs us Q I r h
  obtain ⟨a, nm, fs, tp, cs, ws, b, rfl, ⟨oe, vs, C, e1, e2, e3, e4, e5⟩, hm, hT, k, e, q⟩ := h
  obtain ⟨u1, u2, rfl, r1, r2⟩ := vals2 r
  cases (show u1 = Value.ref a from r1)
  cases (show u2 = Value.ref tp from r2)
  have eC := ga_of e2
  rw [eC] at e
  have Z := T.c nm hm
  rw [eC] at Z
  obtain ⟨h1, _⟩ := (show ObjOk X.prog X.w H s.heap a (.frz oe (.own a)) from I.hok a _ e1)
  have J : ∃ od, PySem.W.InstAt s.heap a oe C od := by
    rcases e5 with ⟨f1, _⟩ | ⟨dx, f1, f2⟩
    · exact ⟨none, h1, e3, by unfold PySem.W.notCls; rw [e4] <;> rfl, by rw [f1]; trivial⟩
    · obtain ⟨mA, ⟨o, es, ep, ho, _⟩, _⟩ := (show ObjOk X.prog X.w H s.heap dx (.xd _) from I.hok dx _ f2)
      exact ⟨some o, h1, e3, by unfold PySem.W.notCls; rw [e4] <;> rfl, by rw [f1]; exact ho⟩
  obtain ⟨od, J⟩ := J
  obtain ⟨_, its, rv, o, g1, g2, n, g3⟩ := (show ObjOk X.prog X.w H s.heap tp (.tup cs) from I.hok tp _ hT)
  have e7 := ClsV.all k rv
  subst e7
  obtain ⟨oc, od', dt, sl⟩ := o
  simp only at g2 g3
  subst g2 g3
  exact PySem.W.kia_tup (PySem.W.kitx_exc Z.cl Z.ga Z.gt Z.sub Z.ca T.gn T.tk Z.mo) I.kIn J g1 e (fun z => nomatch z) fun tk => ⟨.bl b, H, I.tok tk, rfl, q⟩
section
variable {X : Cx} {G : Option (Hp × DH)} {a : Expr} {ta : DTE} {p p2 p3 tpos pos : Pos} {l : List Str} {y z : Str} {kk : Nat}
theorem any_two {K : PySem.W.Frag} {t c d : Value} {b b' : Bool} (h : PySem.W.kitOne K t c = some b) (h' : PySem.W.kitOne K t d = some b') : PySem.W.kitAny K t [c, d] = some (b || b') := by
  unfold PySem.W.kitAny
  rw [h]
  cases b with
  | true => rfl
  | false =>
    show PySem.W.kitAny K t [d] = _
    unfold PySem.W.kitAny
    rw [h']
    cases b' <;> rfl
theorem de_isX2 (T : ClsOk X.K l) (hy : y ∈ l) (hz : z ∈ l) (hg : Gl X "isinstance") (hm : X.mg "isinstance" = none) (hgY : Gl X y) (hmY : X.mg y = some (.ref (He.ga X.K y))) (hgZ : Gl X z) (hmZ : X.mg z = some (.ref (He.ga X.K z))) (ha : DE X G a ta)
    (hdb : (y == ("__debug__" : Str)) = false := by decide) (hdz : (z == ("__debug__" : Str)) = false := by decide)
    (he : starEach [a, .Tuple [.Name y p2, .Name z p3] kk tpos] X.env = (false, eval a X.env) :: starEach [.Tuple [.Name y p2, .Name z p3] kk tpos] X.env := by rfl) (he2 : starEach [.Tuple [.Name y p2, .Name z p3] kk tpos] X.env = (false, eval (.Tuple [.Name y p2, .Name z p3] kk tpos) X.env) :: starEach [] X.env := by rfl)
    (hpl : (backTo pos (starEach [.Tuple [.Name y p2, .Name z p3] kk tpos] X.env)).any (·.1) = false := by rfl) :
    DE X G (.Call (.Name "isinstance" p) [a, .Tuple [.Name y p2, .Name z p3] kk tpos] [] pos) (dIsX2 l y z ta) :=
  PE.of (pe_callB (call_or (call_isXT T) call_isiT) hg hm (by decide +kernel) (pa_cons ha (pa_cons (pe_tup (pa_cons (pe_glob (v := .ref (He.ga X.K y)) hgY hmY rfl hdb) (pa_cons (pe_glob (v := .ref (He.ga X.K z)) hgZ hmZ rfl hdz) pa_nil))) pa_nil he2) he) (by decide) (by decide) he hpl) fun σ H Q ⟨env, h, Q', g, er, hr, q, fin⟩ => ⟨env, h, _, g, er, hr, q, fun v H1 d h1 k1 r1 p1 q1 => by
    refine ⟨(show 2 ≤ sizeLine by decide), fun tp n => ?_⟩
    have pr : Paired ClsV [V.ref (He.ga X.K y), V.ref (He.ga X.K z)] [Value.ref (He.ga X.K y), Value.ref (He.ga X.K z)] := .cons (.own _) (.cons (.own _) .nil)
    have g2 : Gr X.K H1 h1 (upd H1 tp (.tup [V.ref (He.ga X.K y), V.ref (He.ga X.K z)])) h1 := Gr.under n
    cases d with
    | exc nm fs =>
      have p2' := Rp.mono g2 _ _ p1
      unfold Rp at p2'
      obtain ⟨a, rfl, xz⟩ := p2'
      have hm : nm ∈ l := by simpa using q1.1
      exact .inl ⟨a, nm, fs, tp, _, _, _, rfl, xz, hm, upd_same, pr, any_two (T.k nm hm y hy) (T.k nm hm z hz), fin _ _ (.bl _) h1 (k1.trans g2) (r1.under n) (by unfold Rp; rfl) q1.2⟩
    | non =>
      unfold Rp at p1
      subst p1
      exact .inr ⟨.non, tp, _, .type "NoneType", _, false, rfl, upd_same, pr, .base .non, any_two (T.n y hy) (T.n z hz), fin _ _ (.bl false) h1 (k1.trans g2) (r1.under n) (by unfold Rp; rfl) q1⟩
    | _ => exact q1.elim⟩
end
end DL
set_option Elab.async false
set_option linter.all false
set_option maxRecDepth 100000
set_option maxHeartbeats 4000000
namespace DL
open PySem PySem.Spec PyProof.Rows L2
/-! ### a dict of the module: texts to numbers, texts -/
def entC (e : DictEntry) : Option (Str × L2.Key) := match e.key, e.val with
  | .str x _, .int i _ => some (x, .inl i)
  | .str x _, .str y _ => some (x, .inr y)
  | _, _ => none
structure CdAt (K : PySem.W.Frag) (w : World) (mg : Str → Option Value) (x : Str) (kvs : List (Str × L2.Key)) : Prop where
  ex : ∃ a es n, mg x = some (.ref a) ∧ L2.KDict K w a es n ∧ es.toList.map entC = kvs.map some
theorem ents_find {z : Str} : ∀ {es : List DictEntry} {kvs : List (Str × L2.Key)}, es.map entC = kvs.map some →
    (match es.find? (·.key.isStr z) with | some e => ∃ v, kvs.lookup z = some v ∧ RelV (kV v) e.val | none => kvs.lookup z = none) ∧ es.any (·.refKey) = false
  | [], [], _ => ⟨rfl, rfl⟩
  | [], _ :: _, h => by cases h
  | _ :: _, [], h => by cases h
  | e :: es, p :: kvs, h => by
    rw [List.map_cons, List.map_cons] at h
    obtain ⟨h1, h2⟩ := List.cons.inj h
    obtain ⟨i1, i2⟩ := ents_find (z := z) h2
    have key : ∃ t, e.key = .str p.1 t ∧ RelV (kV p.2) e.val := by
      unfold entC at h1
      split at h1
      · rename_i x t i t' e1 e2
        have h3 := Option.some.inj h1
        subst h3
        exact ⟨t, e1, t', e2⟩
      · rename_i x t y t' e1 e2
        have h3 := Option.some.inj h1
        subst h3
        exact ⟨t, e1, t', e2⟩
      · cases h1
    obtain ⟨t, ek, rv⟩ := key
    rw [List.find?_cons, List.lookup_cons, List.any_cons, i2]
    have ei : e.key.isStr z = (z == p.1) := by
      rw [ek]
      show (p.1 == z) = (z == p.1)
      exact Bool.eq_iff_iff.mpr ⟨fun q => by rw [beq_iff_eq] at q ⊢; exact q.symm, fun q => by rw [beq_iff_eq] at q ⊢; exact q.symm⟩
    refine ⟨?_, ?_⟩
    · rw [ei]
      cases c : z == p.1 with
      | true => exact ⟨p.2, rfl, rv⟩
      | false => exact i1
    · rw [Bool.or_false]
      unfold DictEntry.refKey
      rw [ek] <;> rfl
theorem cd_ns {K : PySem.W.Frag} {w : World} {a : Addr} {es : Array DictEntry} {n : Nat} {kvs : List (Str × L2.Key)} (D : L2.KDict K w a es n) (h : es.toList.map entC = kvs.map some) (z : Str) :
    (∃ v u, kvs.lookup z = some v ∧ PySem.W.nsIn K a z = some (some u) ∧ RelV (kV v) u) ∨ (kvs.lookup z = none ∧ PySem.W.nsIn K a z = some none) := by
  obtain ⟨e1, e2⟩ := ents_find (z := z) h
  unfold PySem.W.nsIn
  rw [D.at_]
  simp only []
  cases c : es.toList.find? (·.key.isStr z) with
  | some e =>
    rw [c] at e1
    obtain ⟨v, e3, e4⟩ := e1
    exact .inl ⟨v, e.val, e3, rfl, e4⟩
  | none =>
    rw [c] at e1
    simp only [e2]
    exact .inr ⟨e1, rfl⟩
/-- d.get(x, y) -/
def dCdGet (kvs : List (Str × L2.Key)) (ta tb : DTE) : DTE := fun env h Q => ta env h fun d h1 => tb env h1 fun e h2 => asS d fun z => Q (((kvs.lookup z).map ofK).getD e) h2
/-- d[x] -/
def dCdIx (kvs : List (Str × L2.Key)) (ta : DTE) : DTE := fun env h Q => ta env h fun d h1 => asS d fun z => optAt (kvs.lookup z) fun v => Q (ofK v) h1
section
variable {X : Cx} {G : Option (Hp × DH)} {x : Str} {kvs : List (Str × L2.Key)} {p apos cpos pos : Pos} {a b : Expr} {ta tb : DTE}
theorem de_cdIx (C : CdAt X.K X.w X.mg x kvs) (hg : Gl X x) (hd : (x == ("__debug__" : Str)) = false) (ha : DE X G a ta) (hp : PlainIx a) : DE X G (.Subscript (.Name x p) a pos) (dCdIx kvs ta) := by
  obtain ⟨d, es, n, hm, D, hk⟩ := C.ex
  refine PE.of (pe_ix ix_kdict (pe_glob (v := .ref d) hg hm rfl hd) ha hp) fun σ H Q ⟨env, h, Q', g, er, hr, q, fin⟩ => ⟨env, h, _, g, er, hr, q, fun v H1 e h1 k1 r1 p1 q1 => ?_⟩
  obtain ⟨z, rfl, rfl, q2⟩ := asS_of q1 p1
  rcases cd_ns D hk z with ⟨v, u, e1, e2, e3⟩ | ⟨e1, _⟩
  · rw [e1] at q2
    exact ⟨d, z, kV v, rfl, rfl, ⟨es, n, u, D.at_, D.lit, e2, e3⟩, fin _ H1 (ofK v) h1 k1 r1 ofK_rp q2⟩
  · rw [e1] at q2
    exact q2.elim
def rvCdGet (X : Cx) (d : Addr) (kvs : List (Str × L2.Key)) : V → List V → Hp → VK → Prop := fun x vs H Q => ∃ (z : Str) (y : V), x = .ref d ∧ vs = [.str z, y] ∧ Q (((kvs.lookup z).map kV).getD y) H
theorem mt_cdGet {d : Addr} {es : Array DictEntry} {n : Nat} (D : L2.KDict X.K X.w d es n) (hk : es.toList.map entC = kvs.map some) : MtR X "dict.get" (rvCdGet X d kvs) := by
  intro pins s σ H x vs v us Q I rx rs ⟨z, y, ex, ev, q⟩
  subst ex ev
  cases rx
  obtain ⟨u1, u2, rfl, ru1, ru2⟩ := rs.two
  obtain ⟨t, rfl⟩ := ru1
  have hm := PySem.W.mapOf_K (prog := X.prog) (w := X.w) I.kIn D.at_ D.lit
  refine call_meetsIn PySem.F.slot_dict_get hm.typeIs PySem.F.entry_dict_get (PySem.F.args_dict_get_3 _ _ _) (meets_dict_get_default (strKind X.prog X.w) d (strKind_is X.prog X.w z t) D.low u2) ⟨_, hm, ?_⟩
  rcases cd_ns D hk z with ⟨v, u, e1, e2, e3⟩ | ⟨e1, e2⟩
  · rw [e1] at q
    show EP X pins σ Q ((findBy Value.isStrOf es z).getD u2) _
    rw [PySem.W.find_K D.at_ e2]
    exact ⟨kV v, H, I.tok _, e3, q⟩
  · rw [e1] at q
    show EP X pins σ Q ((findBy Value.isStrOf es z).getD u2) _
    rw [PySem.W.find_K D.at_ e2]
    exact ⟨y, H, I.tok _, ru2, q⟩
theorem de_cdGet (C : CdAt X.K X.w X.mg x kvs) (hg : Gl X x) (hd : (x == ("__debug__" : Str)) = false) (ha : DE X G a ta) (hb : DE X G b tb)
    (hfew : ((backTo cpos (starEach [a, b] X.env)).all (fun x => !x.1) && (backToKw cpos (keywordEach [] X.env)).all (fun x => x.1.isSome)
      && decide ([a, b].length + ([] : List Keyword).length + (if ([] : List Keyword).isEmpty then 0 else 1) < 30)) = true)
    (hline : (apos.endLine == cpos.line) = true) (hs : starEach [a, b] X.env = (false, eval a X.env) :: starEach [b] X.env) (hs2 : starEach [b] X.env = (false, eval b X.env) :: starEach [] X.env) (hplain : (backTo cpos (starEach [b] X.env)).any (·.1) = false) :
    DE X G (.Call (.Attribute (.Name x p) "get" apos) [a, b] [] cpos) (dCdGet kvs ta tb) := by
  obtain ⟨d, es, n, hm, D, hk⟩ := C.ex
  refine PE.of (pe_dmo (to := tC (.ref d)) PySem.F.slot_dict_get PySem.F.type_dict_get (mt_cdGet D hk) (pe_glob (v := .ref d) hg hm rfl hd) (pa_cons ha (pa_cons hb pa_nil hs2) hs) rfl hfew hline hs hplain) fun σ H Q ⟨env, h, Q', g, er, hr, q, fin⟩ => ?_
  refine ⟨⟨d, rfl, fun pins σ s I => ?_⟩, ⟨env, h, _, g, er, hr, q, fun v H1 e h1 k1 r1 p1 q1 => ⟨env, h1, _, g.on k1, er.mono k1, r1, q1, fun y H2 e2 h2 k2 r2 p2 q2 => ?_⟩⟩⟩
  · have hm := PySem.W.mapOf_K (prog := X.prog) (w := X.w) I.kIn D.at_ D.lit
    exact ⟨hm.typeIs, fun b e => by cases e; exact ⟨_, I.kIn _ _ D.at_, rfl⟩⟩
  · obtain ⟨z, rfl, rfl, q3⟩ := asS_of q2 p1
    refine ⟨z, y, rfl, rfl, ?_⟩
    cases c : kvs.lookup z with
    | none =>
      rw [c] at q3
      exact fin _ H2 e2 h2 (k1.trans k2) r2 p2 q3
    | some v =>
      rw [c] at q3
      exact fin _ H2 (ofK v) h2 (k1.trans k2) r2 ofK_rp q3
end
/-! ### tuple(range(n)), tuple(range(a, b)) -/
def dTRg1 (t : DTE) : DTE := fun env h Q => t env h fun d h1 => asI d fun n => RgS 0 n ∧ Q (.tup (intsD 0 n.toNat)) h1
def dTRg2 (t u : DTE) : DTE := fun env h Q => t env h fun d h1 => u env h1 fun e h2 => asI d fun i => asI e fun j => RgS i j ∧ Q (.tup (intsD i (j - i).toNat)) h2
section
variable {X : Cx} {G : Option (Hp × DH)} {a b : Expr} {ta tb : DTE} {p p2 pos pos2 : Pos}
theorem de_tupRg1 (hc : X.calm = true) (hg : Gl X "tuple") (hm : X.mg "tuple" = none) (hg2 : Gl X "range") (hm2 : X.mg "range" = none) (ha : DE X G a ta) (na : starEach [a] X.env = (false, eval a X.env) :: starEach [] X.env := by rfl) :
    DE X G (.Call (.Name "tuple" p) [.Call (.Name "range" p2) [a] [] pos2] [] pos) (dTRg1 ta) :=
  PE.of (pe_tupRg hc hg hm (prg_1 hg2 hm2 ha na)) fun σ H Q ⟨env, h, Q', g, er, hr, q, fin⟩ => ⟨env, h, _, g, er, hr, q, fun v H1 d h1 k1 r1 p1 q1 => by
    obtain ⟨n, rfl, rfl, ok, q2⟩ := asI_of q1 p1
    refine ⟨n, rfl, ok, fun p n0 => fin _ _ (.tup (intsD 0 n.toNat)) h1 (k1.trans (Gr.under n0)) (r1.under n0) ?_ q2⟩
    unfold Rp
    refine ⟨p, _, rfl, SqT.of upd_same, ?_⟩
    unfold rgV
    rw [Int.sub_zero]
    exact RpL.intsD⟩
theorem de_tupRg2 (hc : X.calm = true) (hg : Gl X "tuple") (hm : X.mg "tuple" = none) (hg2 : Gl X "range") (hm2 : X.mg "range" = none) (ha : DE X G a ta) (hb : DE X G b tb) (na : starEach [a, b] X.env = (false, eval a X.env) :: starEach [b] X.env := by rfl)
    (nb : starEach [b] X.env = (false, eval b X.env) :: starEach [] X.env := by rfl) (hp : (backTo pos2 (starEach [b] X.env)).any (·.1) = false := by rfl) :
    DE X G (.Call (.Name "tuple" p) [.Call (.Name "range" p2) [a, b] [] pos2] [] pos) (dTRg2 ta tb) :=
  PE.of (pe_tupRg hc hg hm (prg_2 hg2 hm2 ha hb na nb hp)) fun σ H Q ⟨env, h, Q', g, er, hr, q, fin⟩ => ⟨env, h, _, g, er, hr, q, fun v H1 d h1 k1 r1 p1 q1 => ⟨env, h1, _, g.on k1, er.mono k1, r1, q1, fun y H2 e h2 k2 r2 p2 q2 => by
    obtain ⟨i, rfl, rfl, q3⟩ := asI_of q2 (Rp.mono k2 _ _ p1)
    obtain ⟨j, rfl, rfl, ok, q4⟩ := asI_of q3 p2
    have k12 := k1.trans k2
    refine ⟨i, j, rfl, rfl, ok, fun p n0 => fin _ _ (.tup (intsD i (j - i).toNat)) h2 (k12.trans (Gr.under n0)) (r2.under n0) ?_ q4⟩
    unfold Rp
    refine ⟨p, _, rfl, SqT.of upd_same, ?_⟩
    unfold rgV
    exact RpL.intsD⟩⟩
end
/-! ### [f, g][k](..) -/
def dCallM (S T : DSp) (n : Nat) (E : DXE) (tb : DTE) (t : DTA) : DTE := fun env h Q => tb env h fun d h1 => asI d fun k => iteB (decide (k = 0)) (dCall S n E t env h1 Q) (iteB (decide (k = 1)) (dCall T n E t env h1 Q) False)
/-- what stands of a def that is called so -/
structure FnAt (X : Cx) (x : Str) (n : Nat) (S : DSp) : Prop where
  ex : ∃ k f fd ps, Room k X.A ∧ X.mg x = some (.ref f) ∧ PySem.W.keepIn X.K (.ref f) = true ∧ Binds X.K fd ps [] ∧ FnOk X.prog X.w X.K X.mg X.base (L2.CX X.prog X.w) k f fd ps (lSp X.K X.mg n S)
section
variable {X : Cx} {G : Option (Hp × DH)} {x y : Str} {p1 p2 lp sp pos : Pos} {b e : Expr} {es : List Expr} {tb : DTE} {t : DTA} {S T : DSp} {n : Nat} {E : DXE}
theorem de_callM (F1 : FnAt X x n S) (F2 : FnAt X y n T) (hg1 : Gl X x) (hg2 : Gl X y) (hx : PassD X G E) (hb : DE X G b tb) (hp : PlainIx b) (ha : DA X G (e :: es) t) (hd1 : (x == ("__debug__" : Str)) = false) (hd2 : (y == ("__debug__" : Str)) = false)
    (he : starEach (e :: es) X.env = (false, eval e X.env) :: starEach es X.env) (hpl : (backTo pos (starEach es X.env)).any (·.1) = false) :
    DE X G (.Call (.Subscript (.List [.Name x p1, .Name y p2] lp) b sp) (e :: es) [] pos) (dCallM S T n E tb t) := by
  obtain ⟨k1, f1, fd1, ps1, hr1, hm1, hk1, hb1, F1⟩ := F1.ex
  obtain ⟨k2, f2, fd2, ps2, hr2, hm2, hk2, hb2, F2⟩ := F2.ex
  have hf := pe_ix (pos := sp) ix_list (pe_lst (pos := lp) (pa_cons (pe_glob (pos := p1) (v := .ref f1) hg1 hm1 rfl hd1) (pa_cons (pe_glob (pos := p2) (v := .ref f2) hg2 hm2 rfl hd2) pa_nil))) hb hp
  refine ⟨fun pins s σ H Q I ⟨env, h, Q', g, er, hr, q, fin⟩ => ?_⟩
  show wpAny _ _ (do callWith pos (← eval (.Subscript (.List [.Name x p1, .Name y p2] lp) b sp) X.env) [] (backTo pos (starEach (e :: es) X.env)) (backToKw pos (keywordEach [] X.env))) _ _ _
  refine wpAny_bind (thn (hf.run pins s σ H (fun v H1 => ∃ (k : Int) (h1 : DH), Gr X.K H h H1 h1 ∧ HR X.K X.mg H1 h1 ∧ ((v = .ref f1 ∧ dCall S n E t env h1 Q') ∨ (v = .ref f2 ∧ dCall T n E t env h1 Q'))) I ?_) fun u s1 ⟨v, H1, I1, r1, q1⟩ => ?_)
  · refine ⟨(show 2 ≤ sizeLine by decide), fun l nl => ?_⟩
    have g0 : Gr X.K H h (upd H l (.lst [V.ref f1, V.ref f2])) h := Gr.under nl
    refine ⟨env, h, _, g.on g0, er.mono g0, hr.under nl, q, fun v H1 d h1 k1 r1 p1 q1 => ?_⟩
    obtain ⟨k, rfl, rfl, q2⟩ := asI_of q1 p1
    have el : H1 l = some (.lst [V.ref f1, V.ref f2]) := (k1.fr l _ upd_same (hr.free nl)).1
    by_cases c : k = 0
    · subst c
      exact ⟨l, _, 0, .ref f1, rfl, rfl, SqL.of el, rfl, 0, h1, g0.trans k1, r1, .inl ⟨rfl, by simpa [iteB] using q2⟩⟩
    · rw [decide_eq_false c] at q2
      by_cases c2 : k = 1
      · subst c2
        exact ⟨l, _, 1, .ref f2, rfl, rfl, SqL.of el, rfl, 1, h1, g0.trans k1, r1, .inr ⟨rfl, by simpa [iteB] using q2⟩⟩
      · rw [decide_eq_false c2] at q2
        exact (by simpa [iteB] using q2 : False).elim
  · obtain ⟨k, h1, g1, hr1', q2⟩ := q1
    have call : ∀ {S : DSp} {f : Addr} {k : Nat} {fd : FuncData} {ps : List Str}, Room k X.A → PySem.W.keepIn X.K (.ref f) = true → Binds X.K fd ps [] → FnOk X.prog X.w X.K X.mg X.base (L2.CX X.prog X.w) k f fd ps (lSp X.K X.mg n S) → dCall S n E t env h1 Q' →
        wpAny (model X.prog X.w) X.A (callWith pos (.ref f) [] (backTo pos (starEach (e :: es) X.env)) (backToKw pos (keywordEach [] X.env))) (EP X pins σ Q) X.xe s1 := fun {S f k fd ps} hr hk hb F q => by
      refine PySem.W.callWith_K (h₀ := X.base) I1.ok.mod.kin hk (thn (ha.run pos pins s1 σ H1 (fun vs H2 => lSp X.K X.mg n S vs H2 Q (WE (lW X.K X.mg G E) σ)) I1 ?_) fun us s2 ⟨vs, H2, I2, r, q⟩ => ⟨I2.kIn, ?_⟩) he hpl
      · exact ⟨env, h1, _, g.on g1, er.mono g1, hr1', q, fun vs H2 ds h2 k2 r2 p2 q2 =>
          ⟨ds, h2, Q', E env, q2.1, p2, r2, q2.2, fun v H3 d h3 k3 r3 p3 q3 => fin v H3 d h3 (g1.trans (k2.trans k3)) r3 p3 q3, fun c dx H' ⟨nm, C, fs, h', a1, a2, a3, a4⟩ => ⟨env, (er.mono (g1.trans k2)).mono a3, nm, C, fs, h', a1, a2, (g.on (g1.trans k2)).on a3, a4⟩⟩⟩
      · exact run_fnS F hr hb (hx σ) I2 r q
    rcases q2 with ⟨rfl, q2⟩ | ⟨rfl, q2⟩
    · cases r1
      exact call hr1 hk1 hb1 F1 q2
    · cases r1
      exact call hr2 hk2 hb2 F2 q2
end
/-! ### list(d.values()) -/
def dValsL (t : DTE) : DTA := fun env h Q => t env h fun d h1 => dctOf d h1 (fun _ _ kvs => Q (kvs.map (·.2)) h1) (fun _ _ => False) False
theorem RpN.valsL {K : PySem.W.Frag} {H : Hp} : ∀ {kvs : List (NestedKey × D)} {xs : List (NestedKey × Addr × Value)}, RpN K H kvs xs → ∃ vs : List V, RpL K H (kvs.map (·.2)) vs ∧ Vals vs (xs.map (·.2.2))
  | [], vs, r => by unfold RpN at r; subst r; exact ⟨[], RpL.nil, .nil⟩
  | p :: ps, vs, r => by
    unfold RpN at r
    obtain ⟨b, v, u, t, rfl, r0, r1, r2, r3⟩ := r
    obtain ⟨ws, a, c⟩ := RpN.valsL r3
    exact ⟨v :: ws, RpL.cons r2 a, .cons r1 c⟩
section
variable {X : Cx} {G : Option (Hp × DH)} {o : Expr} {to : DTE} {p pos apos mpos : Pos}
def tValsL (X : Cx) (td : TE) : TE := fun σ H Q => td σ H fun x H1 => ∃ (a : Addr) (ep : Nat) (ys : List (NestedKey × Addr × Value)) (vs : List V), x = .ref a ∧ H1 a = some (dnO a ep ys) ∧ ys.length ≤ sizeLine ∧ Vals vs (ys.map (·.2.2)) ∧ ∀ l, H1 l = none → Q (.ref l) (upd H1 l (.lst vs))
theorem pe_valsL {td : TE} (hc : X.calm = true) (hg : Gl X "list") (hm : X.mg "list" = none) (hd : PE X o td) (hbase : attributeBase o "values" X.env (eval o X.env) = eval o X.env) (hline : (apos.endLine == mpos.line) = true)
    (na : starEach [Expr.Call (.Attribute o "values" apos) [] [] mpos] X.env = (false, eval (Expr.Call (.Attribute o "values" apos) [] [] mpos) X.env) :: starEach [] X.env := by rfl) :
    PE X (.Call (.Name "list" p) [.Call (.Attribute o "values" apos) [] [] mpos] [] pos) (tValsL X td) := by
  refine ⟨fun pins s σ H Q I h => ?_⟩
  refine Call_ (ld_blt I hg hm boot_list (PyProof.Rows.callWith_type1 (args_cons (wpAny_Call_method0_late hbase hline (thn (hd.run pins s σ H _ I h) fun v s1 ⟨x, H1, I1, r1, a, ep, ys, vs, ex, ha, hz, rv, q⟩ => ?_)) na) na))
  subst ex
  obtain rfl : v = Value.ref a := r1
  obtain ⟨hsys, es, hm, hes⟩ := dn_raw I1 ha
  have hm' := hm
  obtain ⟨ob, ho, ex, hdat⟩ := hm'
  refine ⟨"dict", "dict.values", F.plainAttrs_dict, F.slot_dict_values, F.type_dict_values, ⟨ob, ho, ex.1⟩, fun b e => ?_, Calls.callWith_builtin rfl (PySem.evalArgs_none ?_)⟩
  · cases e
    exact ⟨ob, ho, ex.2.1⟩
  refine call_meetsIn F.slot_dict_values ⟨ob, ho, ex.1⟩ F.entry_dict_values (F.args_dict_values_1 _) (meets_dict_values_raw (prog := X.prog) (w := X.w) a hsys) ⟨⟨es, ep, hm⟩, ?_⟩
  refine args_nil ?_
  have k1 : ∀ b u, s1.heap.get? b = some u → (s1.heap.push { cls := .type "dict_values", data := .fields #[.ref a] }).get? b = some u := fun b u e => Heap.get?_push_of_some _ e
  have hsz := es_size hes
  refine PySem.W.kdl_call (s := { s1 with heap := s1.heap.push { cls := .type "dict_values", data := .fields #[.ref a] } }) (KdlSrc.rawValues (prog := X.prog) (w := X.w) (r := s1.heap.objs.size) (d := a) (es := es) (ep := ep)) (I1.ok.hd hc) ⟨⟨_, Heap.get?_push_size _ rfl, rfl, rfl⟩, hm.push _⟩ (by rw [hsz]; exact hz) fun h' tk acc' c' hk hS' hacc => ?_
  have e0 : acc'.toList.length = ys.length := by rw [Array.length_toList, hacc.1, hsz]
  have ev : acc'.toList = ys.map (·.2.2) := by
    refine List.ext_getElem? fun j => ?_
    rw [List.getElem?_map]
    cases c : ys[j]? with
    | none =>
      have : ys.length ≤ j := List.getElem?_eq_none_iff.mp c
      rw [List.getElem?_eq_none (by omega)]
      rfl
    | some y =>
      have hj : j < acc'.toList.length := by rw [e0]; exact (List.getElem?_eq_some_iff.mp c).1
      obtain ⟨hi, e⟩ := hacc.2 j acc'.toList[j] (by rw [← Array.getElem?_toList, List.getElem?_eq_getElem hj])
      have := es_at hes j
      rw [Array.getElem?_eq_getElem hi, c] at this
      have e4 := Option.some.inj this
      rw [List.getElem?_eq_getElem hj, e, e4]
      rfl
  have rv' : Vals vs acc'.toList := by rw [ev]; exact rv
  have hlv : vs.length ≤ sizeLine := by rw [rv'.length, e0]; exact hz
  have lt : s1.heap.objs.size ≤ (s1.heap.push { cls := .type "dict_values", data := .fields #[.ref a] }).objs.size := by rw [Heap.size_push]; exact Nat.le_succ _
  exact ⟨.ref _, _, I1.laid (a := (s1.heap.push { cls := .type "dict_values", data := .fields #[.ref a] }).objs.size) (t' := tk) (fun b u e => hk b u (k1 b u e)) lt (show ObjOk X.prog X.w _ h' _ (.lst vs) from ⟨hlv, acc'.toList, c', rv', by simpa using hS'⟩), rfl, q _ (I1.hok.fresh lt)⟩
theorem dl_valsL (hc : X.calm = true) (hg : Gl X "list") (hm : X.mg "list" = none) (hd : DE X G o to) (hbase : attributeBase o "values" X.env (eval o X.env) = eval o X.env) (hline : (apos.endLine == mpos.line) = true)
    (na : starEach [Expr.Call (.Attribute o "values" apos) [] [] mpos] X.env = (false, eval (Expr.Call (.Attribute o "values" apos) [] [] mpos) X.env) :: starEach [] X.env := by rfl) :
    DLs X G (.Call (.Name "list" p) [.Call (.Attribute o "values" apos) [] [] mpos] [] pos) (dValsL to) :=
  PE.of (pe_valsL hc hg hm hd hbase hline na) fun σ H Q ⟨env, h, Q', g, er, hr, q, fin⟩ => ⟨env, h, _, g, er, hr, q, fun v H1 d h1 k1 r1 p1 q1 => by
    rcases dctOf_of q1 with ⟨a, ep, kvs, rfl, ea, q2⟩ | ⟨a, kvs, rfl, ea, q2⟩ | q2
    · unfold Rp at p1
      subst p1
      obtain ⟨xs, eH, rx, sz, nd, ok⟩ := r1.dN ea
      obtain ⟨vs, rl, rv⟩ := rx.valsL
      refine ⟨a, ep, xs, vs, rfl, eH, by rw [rx.length]; exact sz, rv, fun l n => fin l _ (kvs.map (·.2)) vs h1 (k1.trans (Gr.under n)) (r1.under n) upd_same (RpL.monoT (TK.new n) _ _ rl) (r1.free n) (fun u e z => by rw [(k1.fr l u e z).1] at n; cases n) q2⟩
    · exact q2.elim
    · exact q2.elim⟩
end
end DL
set_option Elab.async false
set_option linter.all false
set_option maxRecDepth 100000
set_option maxHeartbeats 4000000
namespace DL
open PySem PySem.Spec PyProof.Rows L2
/-! ### exceptions made as values -/
/-- X(e), X an own class of exceptions without an __init__ of its own -/
theorem pe_excV {X : Cx} {C : Addr} {bmB : List Value} {B newId initId : String} {x : Str} {e : Expr} {ta : TE} {p pos : Pos} (F : ExcBaseFacts B newId initId bmB) (q : PySem.W.excIn X.K C bmB newId = true) (gC : X.mg x = some (.ref C)) (kC : PySem.W.keepIn X.K (.ref C) = true) (hg : Gl X x)
    (he : PE X e ta) (hs : starEach [e] X.env = (false, eval e X.env) :: starEach [] X.env := by rfl) (hdb : (x == ("__debug__" : Str)) = false := by decide) :
    PE X (.Call (.Name x p) [e] [] pos) (fun σ H Q => ta σ H fun _ H1 => ∀ (a : Addr) (oe : Obj) (vs : Array Value), H1 a = none → oe.cls = .ref C → oe.dict = none → oe.data = .fields vs → Q (.ref a) (upd H1 a (.frz oe (.own a)))) := by
  refine ⟨fun pins s σ H Q I h => ?_⟩
  refine wpAny_Call_Name_kw (ld_glob I hg gC ?_ hdb)
  refine PySem.W.callWith_K (h₀ := X.base) I.ok.mod.kin kC ?_ hs (by rfl)
  rw [hs]
  show wpAny _ _ (spliced ((false, eval e X.env) :: backTo pos (starEach [] X.env))) _ _ s
  refine Calls.spliced_cons (thn (he.run pins s σ H _ I h) fun u s1 ⟨v, H1, I1, r1, q1⟩ => ?_)
  refine Calls.spliced_nil ⟨I1.kIn, ?_⟩
  show wpAny _ _ (call (.ref C) [u]) _ _ _
  obtain ⟨bm, N, nm, qn, bs, hdct, sn, sub, ab, col, dd, k0, k1, k2, k3, k5, mN, hC, hN, hni, T⟩ := exc_obj I1.kIn q
  refine wpAny_call_exc_subT F T hC hN hni (fun h' a hm => ?_) (by show 1 ≤ sizeLine; rw [sizeLine_eq]; omega)
  have hn : H1 a = none := I1.hok.gone hm.new
  obtain ⟨t, ht, _, _⟩ := hm.there
  exact ⟨.ref a, upd H1 a (.frz _ (.own a)), I1.laidN hm.keeps hm.new hn ⟨ht, _, ht⟩, rfl, q1 a _ _ hn rfl rfl rfl⟩
/-- what makes an exception gives it back -/
theorem pe_pmk {X : Cx} {e : Expr} {M : L2.St → Hp → XK → Prop} (P : PMk X e M) :
    PE X e (fun σ H Q => M σ H fun cls d H1 => ∀ (a : Addr) (oe : Obj) (vs : Array Value), H1 a = none → Zc cls d oe → oe.data = .fields vs → Q (.ref a) (upd H1 a (.frz oe (.own a)))) := by
  refine ⟨fun pins s σ H Q I h => ?_⟩
  refine wpAny_mono (P pins s σ H _ I h) (fun u s1 hu => ?_) fun _ _ x => x
  obtain ⟨a, oe, vs, sI, H', cls, d, rfl, J, k, hne, ha, hz, hd, h1, na, os, ag, r, q⟩ := hu
  have J2 := J.laidN (h' := s1.heap) (o := .frz oe (.own a)) (t' := s1.toks) k hne na ⟨ha, _, ha⟩
  exact ⟨.ref a, _, ⟨J2.ok, by rw [os]; exact J.os, ag, J2.base, J2.loc, J2.cell, J2.free, J2.freeC, J2.pin, J2.hok, J2.len⟩, rfl, q a oe vs na hz hd⟩
section
variable {X : Cx} {G : Option (Hp × DH)} {e : Expr} {te : DTE} {p pos : Pos} {nm : Str}
def dExcT (nm : Str) (t : DTE) : DTE := fun env h Q => t env h fun _ h1 => Q (.exc nm []) h1
theorem de_excT (ns : PySem.W.nsIn X.K mainGlobals nm = some (some (.ref (He.ga X.K nm)))) (q : PySem.W.excIn X.K (He.ga X.K nm) He.veBase "ValueError.__new__" = true) (gC : X.mg nm = some (.ref (He.ga X.K nm))) (kC : PySem.W.keepIn X.K (.ref (He.ga X.K nm)) = true) (hg : Gl X nm)
    (hdb : (nm == ("__debug__" : Str)) = false) (he : DE X G e te) (hs : starEach [e] X.env = (false, eval e X.env) :: starEach [] X.env := by rfl) : DE X G (.Call (.Name nm p) [e] [] pos) (dExcT nm te) :=
  PE.of (pe_excV PySem.F.excBase_ValueError q gC kC hg he hs hdb) fun σ H Q ⟨env, h, Q', g, er, hr, q, fin⟩ => ⟨env, h, _, g, er, hr, q, fun v H1 d h1 k1 r1 p1 q1 => fun a oe vs na e3 e4 e5 =>
    fin (.ref a) _ (.exc nm []) h1 (k1.trans (Gr.under na)) (r1.under na) (by unfold Rp; exact ⟨a, rfl, oe, vs, _, upd_same, ns, e3, e5, .inl ⟨e4, rfl⟩⟩) q1⟩
def dExcI (nm f : Str) (t : DTE) : DTE := fun env h Q => t env h fun d h1 => asI d fun i => Q (.exc nm [(f, i)]) h1
theorem de_excI {f par : Str} {fI : Addr} {fd : FuncData} (ns : PySem.W.nsIn X.K mainGlobals nm = some (some (.ref (He.ga X.K nm)))) (O : OwnI X.prog X.w X.K X.mg X.base (He.ga X.K nm) f par fI fd) (hr : Room 2 X.A) (gC : X.mg nm = some (.ref (He.ga X.K nm))) (hg : Gl X nm)
    (hdb : (nm == ("__debug__" : Str)) = false) (he : DE X G e te) (hs : starEach [e] X.env = (false, eval e X.env) :: starEach [] X.env := by rfl) : DE X G (.Call (.Name nm p) [e] [] pos) (dExcI nm f te) :=
  PE.of (pe_pmk (pmk_oex (dvs := []) (ds := []) O.o O.i O.t O.ok hr O.b .nil pass0X hg gC (pa_cons he pa_nil hs) hdb hs (by rfl))) fun σ H Q ⟨env, h, Q', g, er, hr, q, fin⟩ => ⟨env, h, _, g, er, hr, q, fun v H1 d h1 k1 r1 p1 q1 => by
    obtain ⟨i, rfl, rfl, q2⟩ := asI_of q1 p1
    refine ⟨by simp, fun a na => ⟨a, i, rfl, upd_same, fun dx nd ne => ⟨rfl, dx, [(f, .int i)], upd_same, ?_, ?_, ?_⟩⟩⟩
    · rw [upd_ne ne, upd_same]
    · rw [upd_ne ne] at nd; exact nd
    · have nd' : H1 dx = none := by rw [upd_ne ne] at nd; exact nd
      have e3 : upd (del (upd (upd (upd H1 a (exo a (He.ga X.K nm) none)) dx (exd dx [(f, V.int i)])) a (exo a (He.ga X.K nm) (some dx))) a) dx (.xd [(f, V.int i)]) = upd H1 dx (.xd [(f, V.int i)]) := by
        funext b
        by_cases hb : b = dx
        · subst hb; rw [upd_same, upd_same]
        · rw [upd_ne hb, upd_ne hb]
          by_cases hba : b = a
          · subst hba; rw [del_same, na]
          · rw [del_ne hba, upd_ne hba, upd_ne hb, upd_ne hba]
      rw [e3]
      intro a2 oe vs na2 hz e5
      have k2 : Gr X.K H h (upd H1 dx (.xd [(f, V.int i)])) h1 := k1.trans (Gr.under nd')
      have r2 := r1.under (u := .xd [(f, V.int i)]) nd'
      have ne2 : dx ≠ a2 := fun z => by rw [← z, upd_same] at na2; cases na2
      exact fin (.ref a2) _ (.exc nm [(f, i)]) h1 (k2.trans (Gr.under na2)) (r2.under na2) (by unfold Rp; exact ⟨a2, rfl, oe, vs, _, upd_same, ns, hz.1, e5, .inr ⟨dx, hz.2, by rw [upd_ne ne2, upd_same]; rfl⟩⟩) q2⟩
/-! ### how often a text stands in a text -/
def dCntS (b : Str) (to : DTE) : DTE := fun env h Q => to env h fun o h1 => asS o fun a => Q (.int (Txt.count a b)) h1
theorem de_cntS {o : Expr} {to : DTE} {b : Str} {j : Nat} {apos p2 : Pos} (ho : DE X G o to) (hs : starEach [.Constant (.str b) j p2] X.env = [(false, eval (.Constant (.str b) j p2) X.env)] := by rfl) (hbase : attributeBase o "count" X.env (eval o X.env) = eval o X.env := by rfl) (hline : (apos.endLine == pos.line) = true := by rfl) :
    DE X G (.Call (.Attribute o "count" apos) [.Constant (.str b) j p2] [] pos) (dCntS b to) :=
  PE.of (pe_m1 F.slot_str_count F.type_str_count mt_count ho pe_str hs hbase hline) fun σ H Q ⟨env, h, Q', g, er, hr, q, fin⟩ => ⟨env, h, _, g, er, hr, q, fun v H1 d h1 k1 r1 p1 q1 => by
    obtain ⟨a, rfl, rfl, q2⟩ := asS_of q1 p1
    exact ⟨⟨a, rfl⟩, a, b, rfl, rfl, fin _ H1 (.int _) h1 k1 r1 (by unfold Rp; rfl) q2⟩⟩
end
end DL
set_option Elab.async false
set_option linter.all false
set_option maxRecDepth 100000
set_option maxHeartbeats 4000000
namespace DL
open PySem PySem.Spec PyProof.Rows L2
/-! ### from the text to its reading: one function, proved once -/
inductive BI where
  | len | all | any | sum | range | enumerate | zip | isinstance | max | min | sorted
def BI.nm : BI → Str
  | .len => "len" | .all => "all" | .any => "any" | .sum => "sum" | .range => "range" | .enumerate => "enumerate" | .zip => "zip" | .isinstance => "isinstance" | .max => "max" | .min => "min" | .sorted => "sorted"
inductive TyK where
  | int | bool | str | tuple | list
def TyK.nm : TyK → String
  | .int => "int" | .bool => "bool" | .str => "str" | .tuple => "tuple" | .list => "list"
/-- what a name of the module stands for -/
inductive GK where
  | int (i : Int)
  | str (x : Str)
  | bi (b : BI)
  | ty (T : TyK)
  | fn (n : Nat) (S : DSp)
  /-- a class of exceptions: how it is made (not told | of a text | its field) -/
  | xc (how : Option (Option Str))
  /-- ValueError -/
  | bex
  /-- a name whose new lists are told -/
  | told
  /-- a name whose {} is a dict of nested tuples, of numbers -/
  | dctN
  | dctK
  /-- dict -/
  | dty
  /-- repr, where no repr is under way -/
  | rep
  /-- a method's name: its class, its def -/
  | mth (cn : Str) (n : Nat) (S : DSp)
  /-- a class that is made: its __init__ -/
  | mkr (n : Nat) (S : DSp)
  /-- a dict of the module, texts to numbers or texts -/
  | cdict (kvs : List (Str × L2.Key))
  /-- a field's name: the classes and their fields -/
  | fld (cl : InsT)
/-- the key of a method, of a field; of a field whose new lists are told -/
def dotK (m : Str) : Str := "." ++ m
def eqK (m : Str) : Str := "=" ++ m
structure Cc where
  N : List Str
  sc : Scope
  fn : Str → Bool
  tab : List (Str × GK)
  /-- the module's classes of exceptions -/
  cls : List Str
  /-- not within an except suite -/
  calm : Bool
def GOk (X : Cx) (x : Str) : GK → Prop
  | .int i => ∃ t, X.mg x = some (.int i t)
  | .str s => ∃ t, X.mg x = some (.str s t)
  | .bi b => x = b.nm ∧ X.mg x = none
  | .ty T => x = (Str.ofString T.nm) ∧ X.mg x = none
  | .fn n S => ∃ k f fd ps, Room k X.A ∧ X.mg x = some (.ref f) ∧ PySem.W.keepIn X.K (.ref f) = true ∧ Binds X.K fd ps [] ∧ FnOk X.prog X.w X.K X.mg X.base (L2.CX X.prog X.w) k f fd ps (lSp X.K X.mg n S)
  | .xc none => X.mg x = some (.ref (He.ga X.K x))
  | .xc (some none) => X.mg x = some (.ref (He.ga X.K x)) ∧ PySem.W.nsIn X.K mainGlobals x = some (some (.ref (He.ga X.K x))) ∧ PySem.W.excIn X.K (He.ga X.K x) He.veBase "ValueError.__new__" = true ∧ PySem.W.keepIn X.K (.ref (He.ga X.K x)) = true ∧ Raises X (.ref (He.ga X.K x))
  | .xc (some (some f)) => X.mg x = some (.ref (He.ga X.K x)) ∧ PySem.W.nsIn X.K mainGlobals x = some (some (.ref (He.ga X.K x))) ∧ Room 2 X.A ∧ ∃ par fI fd, OwnI X.prog X.w X.K X.mg X.base (He.ga X.K x) f par fI fd
  | .bex => x = "ValueError" ∧ X.mg x = none
  | .told => True
  | .dctN => True
  | .dctK => True
  | .dty => x = "dict" ∧ X.mg x = none
  | .rep => x = "repr" ∧ X.mg x = none ∧ X.A.guards = some [] ∧ X.A.units + 66 < cLine
  | .mth cn n S => ∃ m, dotK m = x ∧ MethOk X cn m n S
  | .mkr n S => MakeOk X x n S
  | .cdict kvs => CdAt X.K X.w X.mg x kvs
  | .fld cl => ∀ p ∈ cl, InsOk X.K X.mg p.1 p.2
/-- what must stand so that the readings hold -/
structure EOk (c : Cc) (E : DXE) (X : Cx) (G : Option (Hp × DH)) : Prop where
  N : X.N = c.N
  sc : X.env.scope = c.sc
  fn : X.fn = c.fn
  nd : X.N.Nodup
  kind : c.sc.kind = .function
  calm : c.calm = true → X.calm = true
  hu : X.A.units + 65 < cLine
  pass : PassD X G E
  xcls : ClsOk X.K c.cls
  glob : ∀ p ∈ c.tab, GOk X p.1 p.2
def ob {α β : Type} (o : Option α) (k : α → Option β) : Option β := match o with
  | some a => k a
  | none => none
theorem ob_some {α β : Type} {o : Option α} {k : α → Option β} {b : β} (h : ob o k = some b) : ∃ a, o = some a ∧ k a = some b := by
  cases o with
  | none => cases h
  | some a => exact ⟨a, rfl, h⟩
def ck {α : Type} (b : Bool) (o : Option α) : Option α := match b with
  | true => o
  | false => none
theorem ck_some {α : Type} {b : Bool} {o : Option α} {x : α} (h : ck b o = some x) : b = true ∧ o = some x := by
  cases b with
  | true => exact ⟨rfl, h⟩
  | false => cases h
def idx (x : Str) : List Str → Option Nat
  | [] => none
  | y :: r => match decide (x = y) with
    | true => some 0
    | false => ob (idx x r) fun i => some (i + 1)
theorem idx_ok {x : Str} : ∀ {l : List Str} {i : Nat}, idx x l = some i → l[i]? = some x
  | [], i, h => by cases h
  | y :: r, i, h => by
    unfold idx at h
    cases e : decide (x = y) with
    | true =>
      rw [e] at h
      cases h
      rw [of_decide_eq_true e]; rfl
    | false =>
      rw [e] at h
      obtain ⟨j, h1, h2⟩ := ob_some h
      cases h2
      show r[j]? = some x
      exact idx_ok h1
theorem mem_of_look {α : Type} {x : Str} {g : α} : ∀ {l : List (Str × α)}, l.lookup x = some g → (x, g) ∈ l
  | [], h => by cases h
  | (y, z) :: r, h => by
    rw [List.lookup_cons] at h
    cases e : x == y with
    | true =>
      rw [e] at h
      cases h
      rw [eq_of_beq e]; exact List.mem_cons_self ..
    | false =>
      rw [e] at h
      exact List.mem_cons_of_mem _ (mem_of_look h)
/-- a new list, by its form -/
def isNewL : Nat → Expr → Bool
  | 0, _ => false
  | n + 1, .BinOp a .Add b _ => isNewL n a || isNewL n b
  | _, .List .. => true
  | _, .ListComp .. => true
  | _, .Call (.Name x _) [_] [] _ => decide (x = "list") || decide (x = "sorted")
  | _, _ => false
def plainNm (x : Str) : Bool := !(x == ("__debug__" : Str)) && (!(x == ("__classdict__" : Str)) && !(x == ("__name__" : Str)))
def Cc.slot (c : Cc) (x : Str) : Option Nat := match c.sc.names.lookup x with
  | some .local => idx x c.N
  | some .cell => idx x c.N
  | some .free => idx x c.N
  | _ => none
def Cc.gl (c : Cc) (x : Str) : Option GK := match c.sc.names.lookup x with
  | some .globalImplicit => c.tab.lookup x
  | _ => none
/-- its new lists are told -/
def Cc.told (c : Cc) (x : Str) (e : Expr) : Bool := isNewL 9 e && (match c.tab.lookup x with
  | some .told => true
  | _ => false)
/-- the key of a place at which a new list is told -/
def posK (p : Pos) : Str := ⟨#[0, p.line, p.col]⟩
def Cc.toldAt (c : Cc) (p : Pos) : Bool := match c.tab.lookup (posK p) with
  | some .told => true
  | _ => false
def newAt (b : Bool) (t : DTA) : DTE := match b with
  | true => dNew t
  | false => dNewV t
def revAt (b : Bool) (t : DTE) : DTE := match b with
  | true => dRevN t
  | false => dUn rRevA t
/-- the key of a sum, a product of lists that is told -/
def posB (p : Pos) : Str := ⟨#[1, p.line, p.col, p.endLine, p.endCol]⟩
def Cc.toldB (c : Cc) (p : Pos) : Bool := match c.tab.lookup (posB p) with
  | some .told => true
  | _ => false
theorem de_newAt {X : Cx} {G : Option (Hp × DH)} {a : Expr} {t : DTA} {b : Bool} (p : DLs X G a t) : DE X G a (newAt b t) := by
  cases b
  · exact de_newV p
  · exact de_new p
theorem de_revAt {X : Cx} {G : Option (Hp × DH)} {a : Expr} {t : DTE} {b : Bool} {k : Nat} {p1 p2 p3 pos : Pos} (p : DE X G a t) : DE X G (.Subscript a (.Slice none none (some (.UnaryOp .USub (.Constant (.int 1) k p1) p2)) p3) pos) (revAt b t) := by
  cases b
  · exact de_revA p
  · exact de_revN p
/-- a slot that is stored to -/
def Cc.tgt (c : Cc) (x : Str) : Option Nat := match c.sc.names.lookup x with
  | some .local => idx x c.N
  | some .cell => ck (c.fn x) (idx x c.N)
  | _ => none
section
variable {c : Cc} {E : DXE} {X : Cx} {G : Option (Hp × DH)}
theorem slot_ok (ok : EOk c E X G) {x : Str} {i : Nat} (h : c.slot x = some i) : X.N[i]? = some x ∧ Vis X.env.scope x := by
  unfold Cc.slot at h
  rw [ok.N]
  unfold Vis
  rw [ok.sc]
  cases e : c.sc.names.lookup x with
  | none => rw [e] at h; cases h
  | some k =>
    rw [e] at h
    cases k with
    | «local» => exact ⟨idx_ok h, .inl rfl⟩
    | cell => exact ⟨idx_ok h, .inr (.inl rfl)⟩
    | free => exact ⟨idx_ok h, .inr (.inr rfl)⟩
    | _ => cases h
theorem tgt_ok (ok : EOk c E X G) {x : Str} {i : Nat} (h : c.tgt x = some i) : X.N[i]? = some x ∧ L2.Loc X.env.scope x ∧ (X.fn x = true ∨ X.env.scope.names.lookup x = some .local) := by
  unfold Cc.tgt at h
  rw [ok.N, ok.fn]
  unfold L2.Loc
  rw [ok.sc]
  cases e : c.sc.names.lookup x with
  | none => rw [e] at h; cases h
  | some k =>
    rw [e] at h
    cases k with
    | «local» => exact ⟨idx_ok h, .inl rfl, .inr rfl⟩
    | cell => obtain ⟨a, h⟩ := ck_some h; exact ⟨idx_ok h, .inr rfl, .inl a⟩
    | _ => cases h
theorem gl_ok (ok : EOk c E X G) {x : Str} {g : GK} (h : c.gl x = some g) : Gl X x ∧ GOk X x g := by
  unfold Cc.gl at h
  cases e : c.sc.names.lookup x with
  | none => rw [e] at h; cases h
  | some k =>
    rw [e] at h
    cases k with
    | globalImplicit => exact ⟨by unfold Gl Env.kindOf; rw [ok.sc]; exact e, ok.glob (x, g) (mem_of_look h)⟩
    | _ => cases h
theorem plain_ok {x : Str} (h : plainNm x = true) : (x == ("__debug__" : Str)) = false ∧ (x == ("__classdict__" : Str)) = false ∧ x ≠ "__name__" := by
  unfold plainNm at h
  simp only [Bool.and_eq_true, Bool.not_eq_true'] at h
  exact ⟨h.1, h.2.1, fun e => by rw [e] at h; simp at h⟩
end
/-! shapes -/
def notStar : Expr → Bool
  | .Starred .. => false
  | _ => true
def notSet : Expr → Bool
  | .Set .. => false
  | _ => true
def notSlice : Expr → Bool
  | .Slice .. => false
  | _ => true
def notComp : Expr → Bool
  | .ListComp .. => false
  | .SetComp .. => false
  | .DictComp .. => false
  | _ => true
def notTuple : Expr → Bool
  | .Tuple .. => false
  | _ => true
/-- its truth is asked of its value -/
def byVal : Expr → Bool
  | .UnaryOp .Not _ _ => false
  | .BoolOp .. => false
  | .IfExp .. => false
  | .Compare .. => false
  | _ => true
theorem star_of {e : Expr} {es : List Expr} {env : Env} (h : notStar e = true) : starEach (e :: es) env = (false, eval e env) :: starEach es env := by cases e <;> first | rfl | cases h
theorem plain_args {env : Env} {pos : Pos} : ∀ {es : List Expr}, (es.all notStar) = true → (backTo pos (starEach es env)).any (·.1) = false
  | [], _ => rfl
  | e :: es, h => by
    simp only [List.all_cons, Bool.and_eq_true] at h
    rw [star_of h.1]
    exact plain_args (es := es) h.2
theorem marks_of {o : CmpOp} {b : Expr} (h : notSet b = true) : behindInMarks o b = false := by cases b <;> first | rfl | cases h
theorem truth_of {e : Expr} (h : byVal e = true) (env : Env) (whole : Sem Value) : isTrue e env whole = (do let v ← whole; standAt e.pos; holding [v] (truthy v)) := by
  cases e with
  | UnaryOp o a p => cases o <;> first | rfl | cases h
  | BoolOp o a p => cases h
  | IfExp a b d p => cases h
  | Compare a b d p => cases h
  | _ => rfl
theorem plainIx_of {b : Expr} (h : notSlice b = true) : PlainIx b := by
  intro o i
  cases b <;> first | rfl | cases h
theorem noswap_of {e : Expr} {t : Option Expr} {l : Nat} {env : Env} (h : notComp e = true) : swapsWith e t l env = pure false := by cases e <;> first | rfl | cases h
theorem folded_of {e : Expr} {env : Env} (h : notSet e = true) (x : Value) : foldedSetIterable e env x = pure x := by cases e <;> first | rfl | cases h
/-! the operators -/
def opB : Operator → Option DR2
  | .Add => some rAddD | .Sub => some rSubI | .Mult => some rMulD | .Mod => some rModI | .FloorDiv => some rDivI | .Pow => some rPowI
  | _ => none
def opC : CmpOp → Option DR2
  | .Eq => some (rEqD' false) | .NotEq => some (rEqD' true) | .Lt => some rLtI | .LtE => some rLeI | .Gt => some rGtI | .GtE => some rGeI
  | .In => some (rInE false) | .NotIn => some (rInE true) | .Is => some (rIsD false) | .IsNot => some (rIsD true)
theorem opB_ok {X : Cx} {o : Operator} {r : DR2} (h : opB o = some r) : DOp X (binaryOp o) r := by
  cases o <;> first | (cases h; done) | (cases h; first | exact d_add | exact d_sub | exact d_mul | exact d_mod | exact d_div | exact d_pow)
theorem opC_ok {X : Cx} (hu : X.A.units + 65 < cLine) {o : CmpOp} {r : DR2} (h : opC o = some r) : DOp X (compareOp o) r := by
  cases o <;> (cases h; first | exact d_eq (by omega) | exact d_ne (by omega) | exact d_lt | exact d_le | exact d_gt | exact d_ge | exact d_inE hu | exact d_notinE hu | exact d_is | exact d_isnot)
def cK : Const → Option D
  | .int i => some (.int i)
  | .bool b => some (.bl b)
  | .none => some .non
  | .str x => some (.str x)
  | _ => none
theorem cK_ok {X : Cx} {G : Option (Hp × DH)} {k : Const} {d : D} {j : Nat} {pos : Pos} (h : cK k = some d) : DE X G (.Constant k j pos) (dC d) := by
  cases k <;> first | (cases h; done) | (cases h; first | exact de_int | exact de_bl | exact de_non | exact de_str)
def gE : GK → Option D
  | .int i => some (.int i)
  | .str x => some (.str x)
  | _ => none
/-- methods of lists -/
def mL : Str → Option DRM := fun m =>
  if m = "append" then some rAppD else if m = "extend" then some rExtD else if m = "count" then some rCntD else if m = "index" then some rIdxD else none
/-- m is count, and a a text that is written there -/
def cntSOf (m : Str) : Expr → Option Str
  | .Constant (.str b) _ _ => if m = "count" then some b else none
  | _ => none
def mL0 : Str → Option DRM := fun m =>
  if m = "pop" then some rPopD else if m = "clear" then some rClearD else if m = "reverse" then some rRevD else none
/-- targets of a loop -/
def cNames (c : Cc) : List Expr → Option (List Nat)
  | [] => some []
  | .Name x _ :: r => ob (c.tgt x) fun i => ob (cNames c r) fun is => some (i :: is)
  | _ => none
/-- its methods are looked up plainly -/
def plainRcv : Expr → Bool
  | .Call (.Name _ _) [] [] _ => false
  | _ => true
def cTg (c : Cc) : Expr → Option Tgt
  | .Name x _ => ob (c.tgt x) fun i => some (.name i)
  | .Tuple es _ _ => ck c.calm (ob (cNames c es) fun is => some (.tup is))
  | _ => none
def lineOk (apos cpos : Pos) : Bool := apos.endLine == cpos.line
/-- the block of a comprehension -/
def Cc.blk (c : Cc) (scope : Scope) : Cc := ⟨c.N, relS scope c.sc, fun x => scope.names.lookup x == some .cell, c.tab, c.cls, c.calm⟩
/-- within an except suite: no calls of defs -/
def coolT : List (Str × GK) → List (Str × GK)
  | [] => []
  | (x, g) :: r => match g with
    | .fn _ _ => coolT r
    | .mth _ _ _ => coolT r
    | .mkr _ _ => coolT r
    | .xc _ => (x, .xc none) :: coolT r
    | g => (x, g) :: coolT r
def Cc.hot (c : Cc) : Cc := ⟨c.N, c.sc, c.fn, coolT c.tab, c.cls, false⟩
def ownOf (N : List Str) : List (Str × NameKind) → List (Str × Nat)
  | [] => []
  | (x, k) :: r => match k with
    | .local => (match idx x N with | some i => (x, i) :: ownOf N r | none => ownOf N r)
    | .cell => (match idx x N with | some i => (x, i) :: ownOf N r | none => ownOf N r)
    | _ => ownOf N r
def slotsIn (g : Tgt) (own : List (Str × Nat)) : Bool := g.slots.all fun j => (own.map (·.2)).contains j
def cA' (cE : Expr → Option DTE) : List Expr → Option DTA
  | [] => some dNil
  | e :: es => ck (notStar e) (ob (cE e) fun t => ob (cA' cE es) fun ts => some (dCons t ts))
/-- a dict of the module -/
def cdOf (c : Cc) : Expr → Option (List (Str × L2.Key))
  | .Name x _ => match plainNm x with
    | true => (match c.gl x with
      | some (.cdict kvs) => some kvs
      | _ => none)
    | false => none
  | _ => none
def fnOf (c : Cc) (x : Str) : Option (Nat × DSp) := match plainNm x with
  | true => (match c.gl x with
    | some (.fn n S) => some (n, S)
    | _ => none)
  | false => none
/-- range(..) as what a tuple is made of -/
def rgArgs (c : Cc) : Expr → Option (List Expr)
  | .Call (.Name y _) es [] _ => (match c.gl y with
    | some (.bi .range) => some es
    | _ => none)
  | _ => none
/-- o.values() -/
def valsOf : Expr → Option Expr
  | .Call (.Attribute o m apos) [] [] cpos => (match decide (m = "values") && (lineOk apos cpos && plainRcv o) with
    | true => some o
    | false => none)
  | _ => none
def tyOf : GK → Option TyK
  | .ty T => some T
  | _ => none
def cO' (cE : Expr → Option DTE) : Option Expr → Option DTO
  | none => some dNoPart
  | some e => ob (cE e) fun t => some (dPart t)
/-- the pairs of a display -/
def cDp (v : Expr → Option DTE) : List (Option Expr) → List Expr → Option (List (L2.Key × DTE))
  | [], [] => some []
  | some (.Constant (.int i) _ _) :: ks, e :: es => ob (v e) fun t => ob (cDp v ks es) fun r => some ((.inl i, t) :: r)
  | some (.Constant (.str x) _ _) :: ks, e :: es => ob (v e) fun t => ob (cDp v ks es) fun r => some ((.inr x, t) :: r)
  | _, _ => none
mutual
def cE (c : Cc) (E : DXE) : Nat → Expr → Option DTE
  | 0, _ => none
  | f + 1, e => match isNewL 9 e with
    | true => ob (cL c E f e) fun t => some (newAt (c.toldAt e.pos) t)
    | false => match e with
      | .Name x _ => ck (plainNm x) (match c.slot x with
        | some i => some (dVar i)
        | none => ob (c.gl x) fun g => ob (gE g) fun d => some (dC d))
      | .Constant k _ _ => ob (cK k) fun d => some (dC d)
      | .BinOp a o b p => (match c.toldB p with
        | true => ob (opT o) fun r => ob (cE c E f a) fun ta => ob (cE c E f b) fun tb => some (dNew (r ta tb))
        | false => ob (opB o) fun r => ob (cE c E f a) fun ta => ob (cE c E f b) fun tb => some (dBin r ta tb))
      | .UnaryOp .USub a _ => ob (cE c E f a) fun ta => some (dUn rNegI ta)
      | .UnaryOp .Not a _ => ob (cE c E f a) fun ta => some (dNotV ta)
      | .BoolOp _ [a] _ => cE c E f a
      | .BoolOp .And (a :: b :: r) p => ob (cE c E f a) fun ta => ob (cE c E f (.BoolOp .And (b :: r) p)) fun tb => some (dAndV ta tb)
      | .BoolOp .Or (a :: b :: r) p => ob (cE c E f a) fun ta => ob (cE c E f (.BoolOp .Or (b :: r) p)) fun tb => some (dOrV ta tb)
      | .Compare a [.NotEq] [.Dict [] [] _] _ => ob (cE c E f a) fun ta => some (dNeD ta)
      | .Compare a [o] [b] _ => ck (notSet b) (ob (opC o) fun r => ob (cE c E f a) fun ta => ob (cE c E f b) fun tb => some (dBin r ta tb))
      | .Compare a [o, o'] [b, b'] _ => ck (notSet b') (ob (opC o) fun r => ob (opC o') fun r' => ob (cE c E f a) fun ta => ob (cE c E f b) fun tb => ob (cE c E f b') fun tc => some (dChain r r' ta tb tc))
      | .IfExp t a b _ => ob (cT c E f t) fun tt => ob (cE c E f a) fun ta => ob (cE c E f b) fun tb => some (dIfE tt ta tb)
      | .Tuple es _ _ => ob (cA' (cE c E f) es) fun ts => some (dTup ts)
      | .Dict (k₀ :: ks) vs _ => ck (decide ((k₀ :: ks).length ≤ 15)) (ob (cDp (fun e => match isNewL 9 e with
        | true => ob (cL c E f e) fun t => some (dNew t)
        | false => cE c E f e) (k₀ :: ks) vs) fun ps => some (dDisp ps))
      | .Subscript a (.Slice lo hi none _) _ => ob (cE c E f a) fun ta => ob (cO' (cE c E f) lo) fun tl => ob (cO' (cE c E f) hi) fun th => some (dSl ta tl th)
      | .Subscript a (.Slice none none (some (.UnaryOp .USub (.Constant (.int 1) _ _) _)) _) p => ob (cE c E f a) fun ta => some (revAt (c.toldAt p) ta)
      | .Subscript a (.Slice none none (some s) _) _ => ob (cE c E f a) fun ta => ob (cE c E f s) fun ts => some (dStepT ta ts)
      | .Subscript a b _ => ck (notSlice b) (match isNewL 9 a with
        | true => ob (cL c E f a) fun ta => ob (cE c E f b) fun tb => some (dIxL ta tb)
        | false => (match cdOf c a with
          | some kvs => ob (cE c E f b) fun tb => some (dCdIx kvs tb)
          | none => ob (cE c E f a) fun ta => ob (cE c E f b) fun tb => some (dBin rIxE ta tb)))
      | .Call (.Name x _) (a :: es) [] _ => ck (plainNm x && ((a :: es).all notStar)) (ob (c.gl x) fun g => match g with
        | .bi .len => (match es with
          | [] => (match isNewL 9 a with
            | true => ob (cL c E f a) fun t => some (dLq rLenL t)
            | false => ob (cE c E f a) fun t => some (dCB rLenE (dCons t dNil)))
          | _ => none)
        | .bi .all => (match es with
          | [] => ck c.calm (ob (cQ c E f a) fun t => some (dLq rAllD t))
          | _ => none)
        | .bi .any => (match es with
          | [] => ck c.calm (ob (cQ c E f a) fun t => some (dLq rAnyD t))
          | _ => none)
        | .bi .sum => (match es with
          | [] => ck c.calm (ob (cQ c E f a) fun t => some (dLq rSumD t))
          | _ => none)
        | .ty .tuple => (match es with
          | [] => (match isNewL 9 a with
            | true => ob (cL c E f a) fun t => some (dLq rTupD t)
            | false => (match rgArgs c a with
              | some [b] => ck (c.calm && notStar b) (ob (cE c E f b) fun t => some (dTRg1 t))
              | some [b, b'] => ck (c.calm && (notStar b && notStar b')) (ob (cE c E f b) fun t => ob (cE c E f b') fun u => some (dTRg2 t u))
              | _ => ob (cE c E f a) fun t => some (dCB rTupleD (dCons t dNil))))
          | _ => none)
        | .bi .isinstance => (match es with
          | [.Name y _] => ck (plainNm y) (ob (c.gl y) fun g2 => match g2 with
            | .xc _ => ck (c.cls.contains y) (ob (cE c E f a) fun t => some (dIsX c.cls y t))
            | .bex => ob (cE c E f a) fun t => some (dIsX c.cls "ValueError" t)
            | g2 => ob (tyOf g2) fun T => ob (cE c E f a) fun t => some (dIsi T.nm t))
          | [.Tuple [.Name y _, .Name z _] _ _] => ck (plainNm y && (plainNm z && (c.cls.contains y && c.cls.contains z))) (ob (c.gl y) fun g2 => ob (c.gl z) fun g3 => match g2, g3 with
            | .xc _, .xc _ => ob (cE c E f a) fun t => some (dIsX2 c.cls y z t)
            | _, _ => none)
          | _ => none)
        | .bi .max => (match es with
          | [b] => ck c.calm (ob (cE c E f a) fun t => ob (cE c E f b) fun u => some (dCB rMax2 (dCons t (dCons u dNil))))
          | _ => none)
        | .bi .min => (match es with
          | [] => ck c.calm (ob (cE c E f a) fun t => some (dCB rMin1 (dCons t dNil)))
          | [b] => ck c.calm (ob (cE c E f a) fun t => ob (cE c E f b) fun u => some (dCB rMin2 (dCons t (dCons u dNil))))
          | _ => none)
        | .ty .int => (match es with
          | [] => ob (cE c E f a) fun t => some (dCB rIntOf (dCons t dNil))
          | _ => none)
        | .ty .str => (match es with
          | [] => ob (cE c E f a) fun t => some (dCB rStrOf (dCons t dNil))
          | _ => none)
        | .dty => (match es with
          | [] => ck c.calm (ob (cQ c E f a) fun t => some (dLq rDictD t))
          | _ => none)
        | .rep => (match es with
          | [] => ob (cE c E f a) fun t => some (dCB rReprD (dCons t dNil))
          | _ => none)
        | .fn n S => ob (cA' (cE c E f) (a :: es)) fun ts => some (dCall S n E ts)
        | .mkr n S => ob (cA' (cE c E f) (a :: es)) fun ts => some (dMakeI x S n E ts)
        | .xc (some none) => (match es with
          | [] => ob (cE c E f a) fun t => some (dExcT x t)
          | _ => none)
        | .xc (some (some fl)) => (match es with
          | [] => ob (cE c E f a) fun t => some (dExcI x fl t)
          | _ => none)
        | _ => none)
      | .Call (.Name x _) [] [] _ => ck (plainNm x) (ob (c.gl x) fun g => match g with
        | .mkr n S => some (dMakeI x S n E dNil)
        | .fn n S => some (dCall S n E dNil)
        | _ => none)
      | .Call (.Attribute o m apos) [] [] cpos => ck (lineOk apos cpos && plainRcv o) (match c.tab.lookup (dotK m) with
       | some (.mth cn n S) => ob (cE c E f o) fun to => some (dMethI cn m S n E to dNil)
       | _ => match decide (m = "upper") with
        | true => ob (cE c E f o) fun to => some (dUpper to)
        | false => ob (mL0 m) fun r => ob (cE c E f o) fun to => some (dMeth0 r to))
      | .Call (.Attribute o m apos) [a] [] cpos => ck (lineOk apos cpos && (notStar a && plainRcv o)) (match c.tab.lookup (dotK m) with
       | some (.mth cn n S) => ob (cE c E f o) fun to => ob (cE c E f a) fun ta => some (dMethI cn m S n E to (dCons ta dNil))
       | _ => match decide (m = "join") with
        | true => ob (cE c E f o) fun to => ob (cQ c E f a) fun ta => some (dJoin to ta)
        | false => match decide (m = "split") with
          | true => ob (cE c E f o) fun to => ob (cE c E f a) fun ta => some (dSplit to ta)
          | false => match decide (m = "pop") with
            | true => ob (cE c E f o) fun to => ob (cE c E f a) fun ta => some (dMethE rPopAtD rPopKD to (dCons ta dNil))
            | false => match cntSOf m a with
              | some b => ob (cE c E f o) fun to => some (dCntS b to)
              | none => ob (mL m) fun r => ob (cE c E f o) fun to => ob (cE c E f a) fun ta => some (dMeth r to (dCons ta dNil)))
      | .Call (.Attribute o m apos) [a, b] [] cpos => ck (lineOk apos cpos && (notStar a && (notStar b && plainRcv o))) (match c.tab.lookup (dotK m) with
        | some (.mth cn n S) => ob (cE c E f o) fun to => ob (cE c E f a) fun ta => ob (cE c E f b) fun tb => some (dMethI cn m S n E to (dCons ta (dCons tb dNil)))
        | _ => match decide (m = "get") with
          | true => match cdOf c o with
           | some kvs => ob (cE c E f a) fun ta => ob (cE c E f b) fun tb => some (dCdGet kvs ta tb)
           | none => ob (cE c E f o) fun to => ob (cE c E f a) fun ta => ob (cE c E f b) fun tb => some (dMethD rGetD to (dCons ta (dCons tb dNil)))
          | false => match decide (m = "setdefault") with
            | true => ob (cE c E f o) fun to => ob (cE c E f a) fun ta => ob (cL c E f b) fun tb => some (dMethD rSetdD to (dCons ta (dCons (dNew tb) dNil)))
            | false => ck (decide (m = "insert")) (ob (cE c E f o) fun to => ob (cE c E f a) fun ta => ob (cE c E f b) fun tb => some (dMeth rInsD to (dCons ta (dCons tb dNil)))))
      | .Call (.Subscript (.List [.Name x _, .Name y _] _) b _) (a :: es) [] _ => ck (notSlice b && ((a :: es).all notStar)) (match fnOf c x, fnOf c y with
        | some (n, S), some (n', T) => ck (decide (n = n')) (ob (cE c E f b) fun tb => ob (cA' (cE c E f) (a :: es)) fun ts => some (dCallM S T n E tb ts))
        | _, _ => none)
      | .Attribute o m _ => ck (plainRcv o) (match c.tab.lookup (dotK m) with
        | some (.fld cl) => ob (cE c E f o) fun to => some (dFldI cl m to)
        | _ => ck (decide (m = "place") || decide (m = "number")) (ob (cE c E f o) fun to => some (dFldX c.cls m to)))
      | _ => none
def cT (c : Cc) (E : DXE) : Nat → Expr → Option DTT
  | 0, _ => none
  | f + 1, e => match e with
    | .UnaryOp .Not a _ => ob (cT c E f a) fun t => some (dNot t)
    | .BoolOp _ [a] _ => cT c E f a
    | .BoolOp .And (a :: b :: r) p => ob (cT c E f a) fun t => ob (cT c E f (.BoolOp .And (b :: r) p)) fun u => some (dAnd t u)
    | .BoolOp .Or (a :: b :: r) p => ob (cT c E f a) fun t => ob (cT c E f (.BoolOp .Or (b :: r) p)) fun u => some (dOr t u)
    | .Compare a [.NotEq] [.Dict [] [] _] _ => ob (cE c E f a) fun ta => some (dB (dNeD ta))
    | .Compare a [o] [b] _ => ck (notSet b) (ob (opC o) fun r => ob (cE c E f a) fun ta => ob (cE c E f b) fun tb => some (dB (dBin r ta tb)))
    | .Compare a [o, o'] [b, b'] _ => ck (notSet b') (ob (opC o) fun r => ob (opC o') fun r' => ob (cE c E f a) fun ta => ob (cE c E f b) fun tb => ob (cE c E f b') fun tc => some (dB (dChain r r' ta tb tc)))
    | e => ck (byVal e) (ob (cE c E f e) fun t => some (dB t))
def cL (c : Cc) (E : DXE) : Nat → Expr → Option DTA
  | 0, _ => none
  | f + 1, e => match e with
    | .List es _ => ob (cA' (cE c E f) es) fun ts => some (dLst ts)
    | .ListComp elt [⟨tg, iter, ifs, 0⟩] scope _ => ck (c.calm && (notSet iter && (blkC c.N c.sc scope (ownOf c.N scope.names) && (match scope.kind with | .function => true | _ => false))))
      (ob (cI c E f tg iter) fun di => ob (cTg (c.blk scope) tg) fun g => ck (slotsIn g (ownOf c.N scope.names)) (ob (match ifs with
        | [] => some dYes
        | [t] => cT (c.blk scope) X0 f t
        | _ => none) fun tt => ob (cE (c.blk scope) X0 f elt) fun te => some (dLc di g ((ownOf c.N scope.names).map (·.2)) tt te)))
    | .BinOp a .Add b _ => (match isNewL 9 a, isNewL 9 b with
      | true, true => ob (cL c E f a) fun ta => ob (cL c E f b) fun tb => some (dCat ta tb)
      | true, false => ob (cL c E f a) fun ta => ob (cE c E f b) fun tb => some (dCatN ta tb)
      | false, true => ob (cE c E f a) fun ta => ob (cL c E f b) fun tb => some (dCatE ta tb)
      | false, false => none)
    | .Call (.Name x _) [.Call (.Name y py) es [] pos] [] _ => (ob (c.gl x) fun g => match g with
      | .ty .list => ob (c.gl y) fun g2 => (match g2 with
        | .bi .range => (match es with
          | [a] => ck (c.calm && notStar a) (ob (cE c E f a) fun t => some (dLRg1 t))
          | [a, b] => ck (c.calm && (notStar a && notStar b)) (ob (cE c E f a) fun t => ob (cE c E f b) fun u => some (dLRg2 t u))
          | _ => none)
        | _ => ck c.calm (ob (cE c E f (.Call (.Name y py) es [] pos)) fun t => some (dListOfE t)))
      | .bi .sorted => ob (cQ c E f (.Call (.Name y py) es [] pos)) fun t => some (dSorted t)
      | _ => none)
    | .Call (.Name x _) [a] [] _ => ck (notStar a) (ob (c.gl x) fun g => match g with
      | .ty .list => (match valsOf a with
        | some o => ck c.calm (ob (cE c E f o) fun t => some (dValsL t))
        | none => ck c.calm (ob (cE c E f a) fun t => some (dListOfE t)))
      | .bi .sorted => ob (cQ c E f a) fun t => some (dSorted t)
      | _ => none)
    | _ => none
def cQ (c : Cc) (E : DXE) : Nat → Expr → Option DTA
  | 0, _ => none
  | f + 1, e => match isNewL 9 e with
    | true => cL c E f e
    | false => ob (cE c E f e) fun t => some (dQl t)
def cI (c : Cc) (E : DXE) : Nat → Expr → Expr → Option DTI
  | 0, _, _ => none
  | f + 1, tg, iter => match isNewL 9 iter with
    | true => ob (cL c E f iter) fun t => some (dItN t)
    | false => match iter with
      | .Call (.Name x p) es [] pos => ob (c.gl x) fun g => match g with
        | .bi .range => (match es with
          | [a] => ck (notStar a) (ob (cE c E f a) fun ta => some (dRg1 (dCons ta dNil)))
          | [a, b] => ck (notStar a && notStar b) (ob (cE c E f a) fun ta => ob (cE c E f b) fun tb => some (dRg2 (dCons ta (dCons tb dNil))))
          | [a, b, s] => ck (notStar a && (notStar b && notStar s)) (ob (cE c E f a) fun ta => ob (cE c E f b) fun tb => ob (cE c E f s) fun ts => some (dRg3 (dCons ta (dCons tb (dCons ts dNil)))))
          | _ => none)
        | .bi .enumerate => (match tg, es with
          | .Tuple _ _ _, [a] => ck (notStar a) (ob (cE c E f a) fun ta => some (dEnum (dCons ta dNil)))
          | _, _ => none)
        | .bi .zip => (match tg, es with
          | .Tuple _ _ _, [a, b] => ck (notStar a && notStar b) (ob (cE c E f a) fun ta => ob (cE c E f b) fun tb => some (dZip (dCons ta (dCons tb dNil))))
          | .Tuple _ _ _, [a, b, b'] => ck (notStar a && (notStar b && notStar b')) (ob (cE c E f a) fun ta => ob (cE c E f b) fun tb => ob (cE c E f b') fun tc => some (dZip3 (dCons ta (dCons tb (dCons tc dNil)))))
          | _, _ => none)
        | _ => ob (cE c E f (.Call (.Name x p) es [] pos)) fun t => some (dItE t)
      | e => ob (cE c E f e) fun t => some (dItE t)
end
end DL
set_option Elab.async false
set_option linter.all false
set_option maxRecDepth 100000
set_option maxHeartbeats 4000000
namespace DL
open PySem PySem.Spec PyProof.Rows L2
section
variable {c : Cc} {E : DXE} {X : Cx} {G : Option (Hp × DH)}
/-- what is said of each kind, up to a depth -/
structure Snd (f : Nat) : Prop where
  e : ∀ (c : Cc) (E : DXE) (X : Cx) (G : Option (Hp × DH)), EOk c E X G → ∀ e t, cE c E f e = some t → DE X G e t
  t : ∀ (c : Cc) (E : DXE) (X : Cx) (G : Option (Hp × DH)), EOk c E X G → ∀ e t, cT c E f e = some t → DT X G e t
  l : ∀ (c : Cc) (E : DXE) (X : Cx) (G : Option (Hp × DH)), EOk c E X G → ∀ e t, cL c E f e = some t → DLs X G e t
  q : ∀ (c : Cc) (E : DXE) (X : Cx) (G : Option (Hp × DH)), EOk c E X G → ∀ e t, cQ c E f e = some t → DQ X G e t
  i : ∀ (c : Cc) (E : DXE) (X : Cx) (G : Option (Hp × DH)), EOk c E X G → ∀ tg e t, cI c E f tg e = some t → DI X G tg e t
theorem cA_ok {k : Expr → Option DTE} (h : ∀ e t, k e = some t → DE X G e t) : ∀ {es : List Expr} {ts : DTA}, cA' k es = some ts → DA X G es ts
  | [], ts, q => by cases q; exact da_nil
  | e :: es, ts, q => by
    unfold cA' at q
    obtain ⟨s, q⟩ := ck_some q
    obtain ⟨t, q1, q⟩ := ob_some q
    obtain ⟨us, q2, q⟩ := ob_some q
    cases q
    exact da_cons (h _ _ q1) (cA_ok h q2) (star_of s)
theorem cDp_ok {k : Expr → Option DTE} {pos : Pos} (h : ∀ e t, k e = some t → DE X G e t) {ks : List (Option Expr)} : ∀ {vs : List Expr} {ps : List (L2.Key × DTE)}, cDp k ks vs = some ps → PPs X pos ks vs (trsOf X G ps) ∧ ks.all (·.isSome) = true ∧ ks.length = vs.length ∧ ps.length = ks.length := by
  induction ks with
  | nil =>
    intro vs ps q
    cases vs with
    | nil => unfold cDp at q; cases q; exact ⟨pps_nil, rfl, rfl, rfl⟩
    | cons _ _ => unfold cDp at q; cases q
  | cons e0 ks ih =>
    intro vs ps q
    unfold cDp at q
    split at q
    · rename_i ez
      cases ez
    · rename_i i j p ks' e es ez
      cases ez
      obtain ⟨t, q1, q⟩ := ob_some q
      obtain ⟨r, q2, q⟩ := ob_some q
      cases q
      obtain ⟨a, b, c, d⟩ := ih q2
      exact ⟨pps_cons (tk := tC (.int i)) pe_int (h _ _ q1) a, by simpa using b, by simp [c], by simp [d]⟩
    · rename_i x j p ks' e es ez
      cases ez
      obtain ⟨t, q1, q⟩ := ob_some q
      obtain ⟨r, q2, q⟩ := ob_some q
      cases q
      obtain ⟨a, b, c, d⟩ := ih q2
      exact ⟨pps_cons (tk := tC (.str x)) pe_str (h _ _ q1) a, by simpa using b, by simp [c], by simp [d]⟩
    · cases q
theorem cO_ok {k : Expr → Option DTE} (h : ∀ e t, k e = some t → DE X G e t) {o : Option Expr} {t : DTO} (q : cO' k o = some t) : DPO X G o t := by
  cases o with
  | none => cases q; exact dpo_none
  | some e =>
    obtain ⟨t, q1, q⟩ := ob_some q
    cases q
    exact dpo_some (h _ _ q1)
theorem each_of {env : Env} {es : List Expr} (h : ∀ e ∈ es, ∃ x p, e = .Name x p) : (assignEach es env).length = es.length ∧ (assignEach es env).findIdx? (·.1) = none := by
  induction es with
  | nil => exact ⟨rfl, rfl⟩
  | cons e es ih =>
    obtain ⟨x, p, rfl⟩ := h e (List.mem_cons_self ..)
    obtain ⟨a, b⟩ := ih fun e he => h e (List.mem_cons_of_mem _ he)
    refine ⟨by show (assignEach es env).length + 1 = _; rw [a]; rfl, ?_⟩
    show List.findIdx? (·.1) ((false, assign (.Name x p) env) :: assignEach es env) = none
    rw [List.findIdx?_cons, b]
    rfl
theorem cNames_ok (ok : EOk c E X G) : ∀ {es : List Expr} {is : List Nat}, cNames c es = some is → PGs X es (gNames is) ∧ es.length = is.length ∧ ∀ e ∈ es, ∃ x p, e = .Name x p
  | [], is, h => by cases h; exact ⟨pgs_nil, rfl, fun _ z => by cases z⟩
  | e :: es, is, h => by
    cases e with
    | Name x p =>
      obtain ⟨i, h1, h⟩ := ob_some h
      obtain ⟨js, h2, h⟩ := ob_some h
      cases h
      obtain ⟨a1, a2, a3⟩ := tgt_ok ok h1
      obtain ⟨b1, b2, b3⟩ := cNames_ok ok h2
      exact ⟨pgs_cons (pg_name ok.nd a1 a2 a3) b1, by rw [List.length_cons, List.length_cons, b2], fun e he => by
        rcases List.mem_cons.mp he with z | z
        · exact ⟨x, p, z⟩
        · exact b3 e z⟩
    | _ => cases h
theorem cTg_ok (ok : EOk c E X G) {tg : Expr} {g : Tgt} (h : cTg c tg = some g) : PG X tg (tgG X.K g) := by
  cases tg with
  | Name x p =>
    obtain ⟨i, h1, h⟩ := ob_some h
    cases h
    obtain ⟨a1, a2, a3⟩ := tgt_ok ok h1
    exact pg_name ok.nd a1 a2 a3
  | Tuple es k p =>
    obtain ⟨s, h⟩ := ck_some h
    obtain ⟨is, h1, h⟩ := ob_some h
    cases h
    obtain ⟨b1, b2, b3⟩ := cNames_ok ok h1
    obtain ⟨l1, l2⟩ := each_of (env := X.env) b3
    exact pg_tup (ok.calm s) b1 (by rw [l1, b2]) l2
  | _ => cases h
theorem blk_ok (ok : EOk c E X G) {scope : Scope} (hk : scope.kind = .function) (s : Shared) (H : Hp) (C : Addr) (cl : List (Str × Addr)) (fp : List Addr) : EOk (c.blk scope) X0 (X.blk s H scope (compEnvC scope cl C X.env) fp) none where
  N := ok.N
  sc := by
    show relS scope X.env.scope = relS scope c.sc
    rw [ok.sc]
  fn := rfl
  nd := ok.nd
  kind := hk
  calm := ok.calm
  hu := ok.hu
  pass := passX0
  xcls := ok.xcls
  glob := fun p hp => by
    have z := ok.glob p hp
    obtain ⟨x, g⟩ := p
    cases g with
    | xc how =>
      cases how with
      | none => exact z
      | some o => cases o <;> exact z
    | _ => exact z
theorem cntSOf_some {m : Str} {a : Expr} {b : Str} (h : cntSOf m a = some b) : ∃ j p, m = "count" ∧ a = .Constant (.str b) j p := by
  unfold cntSOf at h
  split at h
  · split at h
    · rename_i b' j p e
      cases h
      exact ⟨j, p, e, rfl⟩
    · cases h
  · cases h
theorem mL_ok (hu : X.A.units + 65 < cLine) {m : Str} {r : DRM} (h : mL m = some r) : ∃ idM, Slot "list" m idM ∧ typeOf (.builtin idM) = pure (.type "method_descriptor") ∧ MtR X idM (lM X.K X.mg r) := by
  unfold mL at h
  split at h
  · cases h; rename_i e; subst e; exact ⟨_, PySem.F.slot_list_append, PySem.F.type_list_append, d_append⟩
  · split at h
    · cases h; rename_i e; subst e; exact ⟨_, PySem.F.slot_list_extend, PySem.F.type_list_extend, d_extend⟩
    · split at h
      · cases h; rename_i e; subst e; exact ⟨_, PySem.F.slot_list_count, PySem.F.type_list_count, d_count hu⟩
      · split at h
        · cases h; rename_i e; subst e; exact ⟨_, PySem.F.slot_list_index, PySem.F.type_list_index, d_index hu⟩
        · cases h
theorem mL0_ok {m : Str} {r : DRM} (h : mL0 m = some r) : ∃ idM, Slot "list" m idM ∧ typeOf (.builtin idM) = pure (.type "method_descriptor") ∧ MtR X idM (lM X.K X.mg r) := by
  unfold mL0 at h
  split at h
  · cases h; rename_i e; subst e; exact ⟨_, PySem.F.slot_list_pop, PySem.F.type_list_pop, d_pop⟩
  · split at h
    · cases h; rename_i e; subst e; exact ⟨_, PySem.F.slot_list_clear, PySem.F.type_list_clear, d_clear⟩
    · split at h
      · cases h; rename_i e; subst e; exact ⟨_, PySem.F.slot_list_reverse, PySem.F.type_list_reverse, d_reverse⟩
      · cases h
theorem tyOf_some {g : GK} {T : TyK} (h : tyOf g = some T) : g = .ty T := by
  cases g <;> first | (cases h; rfl) | (simp [tyOf] at h; done)
theorem xc_mg {x : Str} {how : Option (Option Str)} (h : GOk X x (.xc how)) : X.mg x = some (.ref (He.ga X.K x)) := by
  cases how with
  | none => exact h
  | some o => cases o <;> exact h.1
theorem cool_mem {x : Str} {g : GK} : ∀ {l : List (Str × GK)}, (x, g) ∈ coolT l → ∃ g0, (x, g0) ∈ l ∧ ((g = g0 ∧ ((∀ n S, g0 ≠ .fn n S) ∧ (∀ cn n S, g0 ≠ .mth cn n S) ∧ ∀ n S, g0 ≠ .mkr n S) ∧ ∀ h, g0 ≠ .xc h) ∨ ∃ how, g0 = .xc how ∧ g = .xc none)
  | [], h => by cases h
  | (y, k) :: r, h => by
    have tail : (x, g) ∈ coolT r → ∃ g0, (x, g0) ∈ (y, k) :: r ∧ ((g = g0 ∧ ((∀ n S, g0 ≠ .fn n S) ∧ (∀ cn n S, g0 ≠ .mth cn n S) ∧ ∀ n S, g0 ≠ .mkr n S) ∧ ∀ h, g0 ≠ .xc h) ∨ ∃ how, g0 = .xc how ∧ g = .xc none) := fun h => by
      obtain ⟨g0, m, z⟩ := cool_mem h
      exact ⟨g0, List.mem_cons_of_mem _ m, z⟩
    cases k with
    | fn n S => exact tail h
    | mth cn n S => exact tail h
    | mkr n S => exact tail h
    | xc how =>
      rcases List.mem_cons.mp h with z | z
      · cases z; exact ⟨.xc how, List.mem_cons_self .., .inr ⟨how, rfl, rfl⟩⟩
      · exact tail z
    | _ =>
      rcases List.mem_cons.mp h with z | z
      · cases z; exact ⟨_, List.mem_cons_self .., .inl ⟨rfl, ⟨(fun _ _ q => nomatch q), (fun _ _ _ q => nomatch q), fun _ _ q => nomatch q⟩, fun _ q => nomatch q⟩⟩
      · exact tail z
theorem hot_ok (ok : EOk c E X G) (a : Addr) (pn : List (Addr × Obj)) (G' : Option (Hp × DH)) : EOk c.hot X0 (X.suite a pn) G' where
  N := ok.N
  sc := ok.sc
  fn := ok.fn
  nd := ok.nd
  kind := ok.kind
  calm := fun z => nomatch (show false = true from z)
  hu := ok.hu
  pass := passX0
  xcls := ok.xcls
  glob := fun p hp => by
    obtain ⟨x, g⟩ := p
    obtain ⟨g0, m, z⟩ := cool_mem (show (x, g) ∈ coolT c.tab from hp)
    have w := ok.glob _ m
    rcases z with ⟨rfl, n1, n2⟩ | ⟨how, rfl, rfl⟩
    · cases g with
      | fn n S => exact (n1.1 n S rfl).elim
      | mth cn n S => exact (n1.2.1 cn n S rfl).elim
      | mkr n S => exact (n1.2.2 n S rfl).elim
      | xc hw => exact (n2 hw rfl).elim
      | _ => exact w
    · cases how with
      | none => exact w
      | some o =>
        cases o with
        | none => exact w.1
        | some f => exact w.1
end
end DL
set_option Elab.async false
set_option linter.all false
set_option maxRecDepth 100000
set_option maxHeartbeats 4000000
namespace DL
open PySem PySem.Spec PyProof.Rows L2
theorem attrBase_of {o : Expr} {m : Str} {env : Env} {w : Sem Value} (h : plainRcv o = true) : attributeBase o m env w = w := by
  unfold attributeBase
  split
  · cases h
  · rfl
theorem dotK_inj {m m' : Str} (e : dotK m = dotK m') : m = m' := by
  unfold dotK at e
  have z : (("." : Str).cps ++ m.cps) = (("." : Str).cps ++ m'.cps) := congrArg Str.cps e
  have y := congrArg Array.toList z
  simp only [Array.toList_append, List.append_cancel_left_eq] at y
  obtain ⟨a⟩ := m
  obtain ⟨b⟩ := m'
  congr 1
  exact Array.toList_inj.mp y
theorem cdOf_ok {c : Cc} {E : DXE} {X : Cx} {G : Option (Hp × DH)} (ok : EOk c E X G) {e : Expr} {kvs : List (Str × L2.Key)} (h : cdOf c e = some kvs) : ∃ x p, e = .Name x p ∧ (x == ("__debug__" : Str)) = false ∧ Gl X x ∧ CdAt X.K X.w X.mg x kvs := by
  unfold cdOf at h
  split at h
  · rename_i x p
    split at h
    · rename_i hp
      split at h
      · rename_i hg
        cases h
        obtain ⟨a, b⟩ := gl_ok ok hg
        exact ⟨x, p, rfl, (plain_ok hp).1, a, b⟩
      · cases h
    · cases h
  · cases h
theorem fnOf_ok {c : Cc} {E : DXE} {X : Cx} {G : Option (Hp × DH)} (ok : EOk c E X G) {x : Str} {n : Nat} {S : DSp} (h : fnOf c x = some (n, S)) : (x == ("__debug__" : Str)) = false ∧ Gl X x ∧ FnAt X x n S := by
  unfold fnOf at h
  split at h
  · rename_i hp
    split at h
    · rename_i hg
      cases h
      obtain ⟨a, b⟩ := gl_ok ok hg
      exact ⟨(plain_ok hp).1, a, ⟨b⟩⟩
    · cases h
  · cases h
theorem rgArgs_ok {c : Cc} {E : DXE} {X : Cx} {G : Option (Hp × DH)} (ok : EOk c E X G) {e : Expr} {es : List Expr} (h : rgArgs c e = some es) : ∃ py pos2, True ∧ ∃ ks, e = .Call (.Name "range" py) es ks pos2 ∧ ks = [] ∧ Gl X "range" ∧ X.mg "range" = none := by
  unfold rgArgs at h
  split at h
  · split at h
    · rename_i hg
      cases h
      obtain ⟨a, rfl, b⟩ := gl_ok ok hg
      exact ⟨_, _, trivial, _, rfl, rfl, a, b⟩
    · cases h
  · cases h
theorem valsOf_ok {e o : Expr} (h : valsOf e = some o) : ∃ apos cpos, e = .Call (.Attribute o "values" apos) [] [] cpos ∧ (apos.endLine == cpos.line) = true ∧ plainRcv o = true := by
  unfold valsOf at h
  split at h
  · split at h
    · rename_i hc
      cases h
      simp only [Bool.and_eq_true, decide_eq_true_eq] at hc
      obtain ⟨rfl, a, b⟩ := hc
      exact ⟨_, _, rfl, a, b⟩
    · cases h
  · cases h
theorem snd_e {f : Nat} (ih : Snd f) (c : Cc) (E : DXE) (X : Cx) (G : Option (Hp × DH)) (ok : EOk c E X G) (e : Expr) (t : DTE) (h : cE c E (f + 1) e = some t) : DE X G e t := by
  have ie := ih.e c E X G ok
  have it := ih.t c E X G ok
  have il := ih.l c E X G ok
  have iq := ih.q c E X G ok
  unfold cE at h
  split at h
  · obtain ⟨ta, h1, h⟩ := ob_some h
    cases h
    exact de_newAt (il _ _ h1)
  · split at h
    · -- Name
      obtain ⟨hp, h⟩ := ck_some h
      obtain ⟨p1, p2, p3⟩ := plain_ok hp
      split at h
      · cases h
        rename_i hs
        obtain ⟨a, b⟩ := slot_ok ok hs
        exact de_var _ a b p1 p2
      · obtain ⟨g, h1, h⟩ := ob_some h
        obtain ⟨a, b⟩ := gl_ok ok h1
        obtain ⟨d, h2, h⟩ := ob_some h
        cases h
        cases g <;> cases h2
        · obtain ⟨tk, b⟩ := b
          exact de_globI a b p1
        · obtain ⟨tk, b⟩ := b
          exact de_globS a b p1
    · -- Constant
      obtain ⟨d, h1, h⟩ := ob_some h
      cases h
      exact cK_ok h1
    · -- BinOp
      split at h
      · obtain ⟨r, h1, h⟩ := ob_some h
        obtain ⟨ta, h2, h⟩ := ob_some h
        obtain ⟨tb, h3, h⟩ := ob_some h
        cases h
        exact de_new (dl_opT h1 (ie _ _ h2) (ie _ _ h3))
      · obtain ⟨r, h1, h⟩ := ob_some h
        obtain ⟨ta, h2, h⟩ := ob_some h
        obtain ⟨tb, h3, h⟩ := ob_some h
        cases h
        exact de_bin (opB_ok h1) (ie _ _ h2) (ie _ _ h3)
    · obtain ⟨ta, h2, h⟩ := ob_some h
      cases h
      exact de_neg (ie _ _ h2)
    · obtain ⟨ta, h2, h⟩ := ob_some h
      cases h
      exact de_not (ie _ _ h2)
    · exact de_one (ie _ _ h)
    · obtain ⟨ta, h2, h⟩ := ob_some h
      obtain ⟨tb, h3, h⟩ := ob_some h
      cases h
      exact de_and (ie _ _ h2) (ie _ _ h3)
    · obtain ⟨ta, h2, h⟩ := ob_some h
      obtain ⟨tb, h3, h⟩ := ob_some h
      cases h
      exact de_or (ie _ _ h2) (ie _ _ h3)
    · obtain ⟨ta, h2, h⟩ := ob_some h
      cases h
      exact de_neD ok.hu (ie _ _ h2)
    · obtain ⟨s, h⟩ := ck_some h
      obtain ⟨r, h1, h⟩ := ob_some h
      obtain ⟨ta, h2, h⟩ := ob_some h
      obtain ⟨tb, h3, h⟩ := ob_some h
      cases h
      exact de_cmp (opC_ok ok.hu h1) (ie _ _ h2) (ie _ _ h3) (marks_of s)
    · obtain ⟨s, h⟩ := ck_some h
      obtain ⟨r, h1, h⟩ := ob_some h
      obtain ⟨r', h1', h⟩ := ob_some h
      obtain ⟨ta, h2, h⟩ := ob_some h
      obtain ⟨tb, h3, h⟩ := ob_some h
      obtain ⟨tc, h4, h⟩ := ob_some h
      cases h
      exact de_chain (opC_ok ok.hu h1) (opC_ok ok.hu h1') (ie _ _ h2) (ie _ _ h3) (ie _ _ h4) (marks_of s)
    · obtain ⟨tt, h2, h⟩ := ob_some h
      obtain ⟨ta, h3, h⟩ := ob_some h
      obtain ⟨tb, h4, h⟩ := ob_some h
      cases h
      exact de_if (it _ _ h2) (ie _ _ h3) (ie _ _ h4)
    · obtain ⟨ts, h2, h⟩ := ob_some h
      cases h
      exact de_tup (cA_ok ie h2)
    · obtain ⟨s, h⟩ := ck_some h
      obtain ⟨ps, h2, h⟩ := ob_some h
      cases h
      obtain ⟨a1, a2, a3, a4⟩ := cDp_ok (X := X) (G := G) (fun e t q => by
        split at q
        · obtain ⟨t', q1, q⟩ := ob_some q
          cases q
          exact de_new (il _ _ q1)
        · exact ie _ _ q) h2
      have s15 := of_decide_eq_true s
      exact de_disp a1 a2 a3 (by simp) s15 (by rw [a4]; exact s15)
    · obtain ⟨ta, h2, h⟩ := ob_some h
      obtain ⟨tl, h3, h⟩ := ob_some h
      obtain ⟨th, h4, h⟩ := ob_some h
      cases h
      exact de_slice (ie _ _ h2) (cO_ok ie h3) (cO_ok ie h4)
    · obtain ⟨ta, h2, h⟩ := ob_some h
      cases h
      exact de_revAt (ie _ _ h2)
    · obtain ⟨ta, h2, h⟩ := ob_some h
      obtain ⟨ts, h3, h⟩ := ob_some h
      cases h
      exact de_stepT (ie _ _ h2) (ie _ _ h3)
    · obtain ⟨s, h⟩ := ck_some h
      split at h
      · obtain ⟨ta, h2, h⟩ := ob_some h
        obtain ⟨tb, h3, h⟩ := ob_some h
        cases h
        exact dl_ix (il _ _ h2) (ie _ _ h3) (plainIx_of s)
      · split at h
        · rename_i hcd
          obtain ⟨tb, h3, h9⟩ := ob_some h
          cases h9
          obtain ⟨x, px, e, a1, a2, a3⟩ := cdOf_ok ok hcd
          subst e
          exact de_cdIx a3 a2 a1 (ie _ _ h3) (plainIx_of s)
        · obtain ⟨ta, h2, h⟩ := ob_some h
          obtain ⟨tb, h3, h⟩ := ob_some h
          cases h
          exact de_ixE ok.hu (ie _ _ h2) (ie _ _ h3) (plainIx_of s)
    · -- Call name
      obtain ⟨s, h⟩ := ck_some h
      simp only [List.all_cons, Bool.and_eq_true] at s
      obtain ⟨s0, s1, s2⟩ := s
      obtain ⟨p1, p2, p3⟩ := plain_ok s0
      obtain ⟨g, hg, h5⟩ := ob_some h
      clear h
      obtain ⟨hG, hO⟩ := gl_ok ok hg
      split at h5
      · obtain ⟨rfl, hm⟩ := hO
        split at h5
        · split at h5
          · obtain ⟨ta, h2, h5⟩ := ob_some h5
            cases h5
            exact dq_len hG hm (dq_new (il _ _ h2)) (star_of s1) rfl
          · obtain ⟨ta, h2, h5⟩ := ob_some h5
            cases h5
            exact de_callB d_lenE hG hm PySem.boot_len (da_cons (ie _ _ h2) da_nil (star_of s1)) p3 p1 (star_of s1) rfl
        · cases h5
      · obtain ⟨rfl, hm⟩ := hO
        split at h5
        · obtain ⟨sc, h5⟩ := ck_some h5
          obtain ⟨ta, h2, h5⟩ := ob_some h5
          cases h5
          exact dq_all (ok.calm sc) hG hm (iq _ _ h2) (star_of s1) rfl
        · cases h5
      · obtain ⟨rfl, hm⟩ := hO
        split at h5
        · obtain ⟨sc, h5⟩ := ck_some h5
          obtain ⟨ta, h2, h5⟩ := ob_some h5
          cases h5
          exact dq_any (ok.calm sc) hG hm (iq _ _ h2) (star_of s1) rfl
        · cases h5
      · obtain ⟨rfl, hm⟩ := hO
        split at h5
        · obtain ⟨sc, h5⟩ := ck_some h5
          obtain ⟨ta, h2, h5⟩ := ob_some h5
          cases h5
          exact dq_sum (ok.calm sc) hG hm (iq _ _ h2) (star_of s1) rfl
        · cases h5
      · obtain ⟨rfl, hm⟩ := hO
        split at h5
        · split at h5
          · obtain ⟨ta, h2, h5⟩ := ob_some h5
            cases h5
            exact dq_tuple hG hm (dq_new (il _ _ h2)) (star_of s1) rfl
          · split at h5
            · rename_i b hra
              obtain ⟨py, pos2, _, ks, e, ek, a1, a2⟩ := rgArgs_ok ok hra
              subst e
              subst ek
              obtain ⟨q0, h5⟩ := ck_some h5
              simp only [Bool.and_eq_true] at q0
              obtain ⟨ta, h2, h5⟩ := ob_some h5
              cases h5
              exact de_tupRg1 (ok.calm q0.1) hG hm a1 a2 (ie _ _ h2) (star_of q0.2)
            · rename_i b b' hra
              obtain ⟨py, pos2, _, ks, e, ek, a1, a2⟩ := rgArgs_ok ok hra
              subst e
              subst ek
              obtain ⟨q0, h5⟩ := ck_some h5
              simp only [Bool.and_eq_true] at q0
              obtain ⟨ta, h2, h5⟩ := ob_some h5
              obtain ⟨tb, h3, h5⟩ := ob_some h5
              cases h5
              exact de_tupRg2 (ok.calm q0.1) hG hm a1 a2 (ie _ _ h2) (ie _ _ h3) (star_of q0.2.1) (star_of q0.2.2) (by rw [star_of q0.2.2]; rfl)
            · obtain ⟨ta, h2, h5⟩ := ob_some h5
              cases h5
              exact de_callTy d_tuple hG hm (by decide +kernel) (da_cons (ie _ _ h2) da_nil (star_of s1)) p3 p1 (star_of s1) rfl
        · cases h5
      · obtain ⟨rfl, hm⟩ := hO
        split at h5
        · obtain ⟨q0, h5⟩ := ck_some h5
          obtain ⟨q1, q2, q3⟩ := plain_ok q0
          obtain ⟨g2, hg2, h5⟩ := ob_some h5
          obtain ⟨hG2, hO2⟩ := gl_ok ok hg2
          split at h5
          · obtain ⟨sm, h5⟩ := ck_some h5
            obtain ⟨ta, h2, h5⟩ := ob_some h5
            cases h5
            exact de_isX ok.xcls (by simpa using sm) hG hm hG2 (xc_mg hO2) (ie _ _ h2) q1 (star_of s1) rfl rfl
          · obtain ⟨ta, h2, h5⟩ := ob_some h5
            cases h5
            obtain ⟨rfl, hm2⟩ := hO2
            exact de_isV ok.xcls hG hm hG2 hm2 (ie _ _ h2) (star_of s1) rfl rfl
          · obtain ⟨T, h3, h5⟩ := ob_some h5
            obtain ⟨ta, h2, h5⟩ := ob_some h5
            cases h5
            have eT := tyOf_some h3
            subst eT
            obtain ⟨rfl, hm2⟩ := hO2
            cases T
            · exact de_isi (T := "int") (by simp) hG hm hG2 hm2 (by decide +kernel) (ie _ _ h2) q3 q1 (star_of s1) rfl rfl
            · exact de_isi (T := "bool") (by simp) hG hm hG2 hm2 (by decide +kernel) (ie _ _ h2) q3 q1 (star_of s1) rfl rfl
            · exact de_isi (T := "str") (by simp) hG hm hG2 hm2 (by decide +kernel) (ie _ _ h2) q3 q1 (star_of s1) rfl rfl
            · exact de_isi (T := "tuple") (by simp) hG hm hG2 hm2 (by decide +kernel) (ie _ _ h2) q3 q1 (star_of s1) rfl rfl
            · exact de_isi (T := "list") (by simp) hG hm hG2 hm2 (by decide +kernel) (ie _ _ h2) q3 q1 (star_of s1) rfl rfl
        · obtain ⟨q0, h5⟩ := ck_some h5
          simp only [Bool.and_eq_true] at q0
          obtain ⟨q1, q2, q3, q4⟩ := q0
          obtain ⟨g2, hg2, h5⟩ := ob_some h5
          obtain ⟨g3, hg3, h5⟩ := ob_some h5
          obtain ⟨hG2, hO2⟩ := gl_ok ok hg2
          obtain ⟨hG3, hO3⟩ := gl_ok ok hg3
          split at h5
          · obtain ⟨ta, h2, h5⟩ := ob_some h5
            cases h5
            exact de_isX2 ok.xcls (by simpa using q3) (by simpa using q4) hG hm hG2 (xc_mg hO2) hG3 (xc_mg hO3) (ie _ _ h2) (plain_ok q1).1 (plain_ok q2).1 (star_of s1) rfl rfl
          · cases h5
        · cases h5
      · obtain ⟨rfl, hm⟩ := hO
        split at h5
        · obtain ⟨sc, h5⟩ := ck_some h5
          obtain ⟨ta, h2, h5⟩ := ob_some h5
          obtain ⟨tb, h3, h5⟩ := ob_some h5
          cases h5
          simp only [List.all_cons, Bool.and_eq_true] at s2
          exact de_callB (d_max2 (ok.calm sc)) hG hm (by decide +kernel) (da_cons (ie _ _ h2) (da_cons (ie _ _ h3) da_nil (star_of s2.1)) (star_of s1)) p3 p1 (star_of s1) (plain_args (by simp [s2.1]))
        · cases h5
      · obtain ⟨rfl, hm⟩ := hO
        split at h5
        · obtain ⟨sc, h5⟩ := ck_some h5
          obtain ⟨ta, h2, h5⟩ := ob_some h5
          cases h5
          exact de_callB (d_min1 (ok.calm sc)) hG hm (by decide +kernel) (da_cons (ie _ _ h2) da_nil (star_of s1)) p3 p1 (star_of s1) rfl
        · obtain ⟨sc, h5⟩ := ck_some h5
          obtain ⟨ta, h2, h5⟩ := ob_some h5
          obtain ⟨tb, h3, h5⟩ := ob_some h5
          cases h5
          simp only [List.all_cons, Bool.and_eq_true] at s2
          exact de_callB (d_min2 (ok.calm sc)) hG hm (by decide +kernel) (da_cons (ie _ _ h2) (da_cons (ie _ _ h3) da_nil (star_of s2.1)) (star_of s1)) p3 p1 (star_of s1) (plain_args (by simp [s2.1]))
        · cases h5
      · obtain ⟨rfl, hm⟩ := hO
        split at h5
        · obtain ⟨ta, h2, h5⟩ := ob_some h5
          cases h5
          exact de_callTy d_intOf hG hm (by decide +kernel) (da_cons (ie _ _ h2) da_nil (star_of s1)) p3 p1 (star_of s1) rfl
        · cases h5
      · obtain ⟨rfl, hm⟩ := hO
        split at h5
        · obtain ⟨ta, h2, h5⟩ := ob_some h5
          cases h5
          exact de_callTy (d_strOf ok.hu) hG hm (by decide +kernel) (da_cons (ie _ _ h2) da_nil (star_of s1)) p3 p1 (star_of s1) rfl
        · cases h5
      · obtain ⟨rfl, hm⟩ := hO
        split at h5
        · obtain ⟨sc, h5⟩ := ck_some h5
          obtain ⟨ta, h2, h5⟩ := ob_some h5
          cases h5
          exact dq_dict (ok.calm sc) ok.hu hG hm (iq _ _ h2) (star_of s1)
        · cases h5
      · obtain ⟨rfl, hm, hgd, hun⟩ := hO
        split at h5
        · obtain ⟨ta, h2, h5⟩ := ob_some h5
          cases h5
          exact de_callB (d_repr hgd hun) hG hm (by decide +kernel) (da_cons (ie _ _ h2) da_nil (star_of s1)) p3 p1 (star_of s1) rfl
        · cases h5
      · obtain ⟨k, fa, fd, ps, hr, hm, hk, hb, F⟩ := hO
        obtain ⟨ts, h2, h5⟩ := ob_some h5
        cases h5
        exact de_call F hr hG hm hk hb ok.pass (cA_ok ie h2) p1 (star_of s1) (plain_args s2)
      · obtain ⟨ts, h2, h5⟩ := ob_some h5
        cases h5
        exact de_makeI hO ok.pass hG (cA_ok ie h2) p1 (star_of s1) (plain_args s2)
      · obtain ⟨b1, b2, b3, b4, b5⟩ := hO
        split at h5
        · obtain ⟨ta, h2, h5⟩ := ob_some h5
          cases h5
          exact de_excT b2 b3 b1 b4 hG p1 (ie _ _ h2) (star_of s1)
        · cases h5
      · obtain ⟨b1, b2, b3, par, fI, fd, O⟩ := hO
        split at h5
        · obtain ⟨ta, h2, h5⟩ := ob_some h5
          cases h5
          exact de_excI b2 O b3 b1 hG p1 (ie _ _ h2) (star_of s1)
        · cases h5
      · cases h5
    · obtain ⟨s, h⟩ := ck_some h
      obtain ⟨p1, p2, p3⟩ := plain_ok s
      obtain ⟨g, hg, h5⟩ := ob_some h
      clear h
      obtain ⟨hG, hO⟩ := gl_ok ok hg
      split at h5
      · cases h5
        exact de_makeI0 hO ok.pass hG p1
      · obtain ⟨k, fa, fd, ps, hr, hm, hk, hb, F⟩ := hO
        cases h5
        exact de_call0 F hr hG hm hk hb ok.pass p1
      · cases h5
    · obtain ⟨s, h7⟩ := ck_some h
      clear h
      simp only [Bool.and_eq_true] at s
      obtain ⟨s1, s2⟩ := s
      split at h7
      · rename_i hk
        obtain ⟨m', em, M⟩ := ok.glob _ (mem_of_look hk)
        have em := dotK_inj em
        subst em
        obtain ⟨to, h2, h⟩ := ob_some h7
        cases h
        exact de_methI0 M ok.pass (ie _ _ h2) (attrBase_of s2) s1
      split at h7
      · rename_i hu
        have e := of_decide_eq_true hu
        subst e
        obtain ⟨to, h2, h⟩ := ob_some h7
        cases h
        exact de_upper (ie _ _ h2) (attrBase_of s2) s1
      · obtain ⟨r, hr, h⟩ := ob_some h7
        obtain ⟨idM, a1, a2, a3⟩ := mL0_ok (X := X) hr
        obtain ⟨to, h2, h⟩ := ob_some h
        cases h
        exact de_lmeth0 a1 a2 a3 (ie _ _ h2) (attrBase_of s2) s1
    · obtain ⟨s, h7⟩ := ck_some h
      clear h
      simp only [Bool.and_eq_true] at s
      obtain ⟨s1, s2, s3⟩ := s
      split at h7
      · rename_i hk
        obtain ⟨m', em, M⟩ := ok.glob _ (mem_of_look hk)
        have em := dotK_inj em
        subst em
        obtain ⟨to, h2, h⟩ := ob_some h7
        obtain ⟨ta, h3, h⟩ := ob_some h
        cases h
        exact de_methI M ok.pass (ie _ _ h2) (da_cons (ie _ _ h3) da_nil (star_of s2)) (attrBase_of s3) (star_of s2) (plain_args (by simp [s2])) rfl (by simp) s1
      split at h7
      · rename_i hu
        have e := of_decide_eq_true hu
        subst e
        obtain ⟨to, h2, h⟩ := ob_some h7
        obtain ⟨ta, h3, h⟩ := ob_some h
        cases h
        exact de_join (ie _ _ h2) (iq _ _ h3) (by rw [star_of s2]; rfl) (attrBase_of s3) s1
      · split at h7
        · rename_i hu
          have e := of_decide_eq_true hu
          subst e
          obtain ⟨to, h2, h⟩ := ob_some h7
          obtain ⟨ta, h3, h⟩ := ob_some h
          cases h
          exact de_split (ie _ _ h2) (ie _ _ h3) (by rw [star_of s2]; rfl) (attrBase_of s3) s1
        · split at h7
          · rename_i hu
            have e := of_decide_eq_true hu
            subst e
            obtain ⟨to, h2, h⟩ := ob_some h7
            obtain ⟨ta, h3, h⟩ := ob_some h
            cases h
            exact de_methE PySem.F.slot_list_pop PySem.F.type_list_pop d_popAt PySem.F.slot_dict_pop PySem.F.type_dict_pop d_popK (ie _ _ h2) (da_cons (ie _ _ h3) da_nil (star_of s2)) (attrBase_of s3) (by rw [star_of s2]; rfl) s1 (star_of s2) rfl
          split at h7
          · rename_i b hcn
            obtain ⟨to, h2, h⟩ := ob_some h7
            cases h
            obtain ⟨j, p2, rfl, rfl⟩ := cntSOf_some hcn
            exact de_cntS (ie _ _ h2) (by rw [star_of s2]; rfl) (attrBase_of s3) s1
          obtain ⟨r, hr, h⟩ := ob_some h7
          obtain ⟨idM, a1, a2, a3⟩ := mL_ok (X := X) ok.hu hr
          obtain ⟨to, h2, h⟩ := ob_some h
          obtain ⟨ta, h3, h⟩ := ob_some h
          cases h
          exact de_lmeth a1 a2 a3 (ie _ _ h2) (da_cons (ie _ _ h3) da_nil (star_of s2)) (attrBase_of s3) (by rw [star_of s2]; rfl) s1 (star_of s2) rfl
    · obtain ⟨s, h7⟩ := ck_some h
      clear h
      simp only [Bool.and_eq_true] at s
      obtain ⟨s1, s2, s3, s4⟩ := s
      split at h7
      · rename_i hk
        obtain ⟨m', em, M⟩ := ok.glob _ (mem_of_look hk)
        have em := dotK_inj em
        subst em
        obtain ⟨to, h2, h⟩ := ob_some h7
        obtain ⟨ta, h3, h⟩ := ob_some h
        obtain ⟨tb, h4, h⟩ := ob_some h
        cases h
        exact de_methI M ok.pass (ie _ _ h2) (da_cons (ie _ _ h3) (da_cons (ie _ _ h4) da_nil (star_of s3)) (star_of s2)) (attrBase_of s4) (star_of s2) (plain_args (by simp [s2, s3])) (plain_args (by simp [s3])) (by simp) s1
      split at h7
      · rename_i hu
        have e := of_decide_eq_true hu
        subst e
        split at h7
        · rename_i hcd
          obtain ⟨x, px, e, a1, a2, a3⟩ := cdOf_ok ok hcd
          subst e
          obtain ⟨ta, h3, h⟩ := ob_some h7
          obtain ⟨tb, h4, h⟩ := ob_some h
          cases h
          exact de_cdGet a3 a2 a1 (ie _ _ h3) (ie _ _ h4) (by rw [star_of s2, star_of s3]; rfl) s1 (star_of s2) (star_of s3) (by rw [star_of s3]; rfl)
        obtain ⟨to, h2, h⟩ := ob_some h7
        obtain ⟨ta, h3, h⟩ := ob_some h
        obtain ⟨tb, h4, h⟩ := ob_some h
        cases h
        exact de_methD PySem.F.slot_dict_get PySem.F.type_dict_get (d_get ok.hu) (ie _ _ h2) (da_cons (ie _ _ h3) (da_cons (ie _ _ h4) da_nil (star_of s3)) (star_of s2)) (attrBase_of s4) (by rw [star_of s2, star_of s3]; rfl) s1 (star_of s2) (by rw [star_of s3]; rfl)
      split at h7
      · rename_i hu
        have e := of_decide_eq_true hu
        subst e
        obtain ⟨to, h2, h⟩ := ob_some h7
        obtain ⟨ta, h3, h⟩ := ob_some h
        obtain ⟨tb, h4, h⟩ := ob_some h
        cases h
        exact de_methD PySem.F.slot_dict_setdefault PySem.F.type_dict_setdefault d_setdef (ie _ _ h2) (da_cons (ie _ _ h3) (da_cons (de_new (il _ _ h4)) da_nil (star_of s3)) (star_of s2)) (attrBase_of s4) (by rw [star_of s2, star_of s3]; rfl) s1 (star_of s2) (by rw [star_of s3]; rfl)
      obtain ⟨s5, h7⟩ := ck_some h7
      have e := of_decide_eq_true s5
      subst e
      obtain ⟨to, h2, h⟩ := ob_some h7
      obtain ⟨ta, h3, h⟩ := ob_some h
      obtain ⟨tb, h4, h⟩ := ob_some h
      cases h
      exact de_lmeth PySem.F.slot_list_insert PySem.F.type_list_insert d_insert (ie _ _ h2) (da_cons (ie _ _ h3) (da_cons (ie _ _ h4) da_nil (star_of s3)) (star_of s2)) (attrBase_of s4) (by rw [star_of s2, star_of s3]; rfl) s1 (star_of s2) (by rw [star_of s3]; rfl)
    · obtain ⟨s, h7⟩ := ck_some h
      clear h
      simp only [Bool.and_eq_true, List.all_cons] at s
      obtain ⟨s1, s2, s3⟩ := s
      split at h7
      · rename_i hf1 hf2
        obtain ⟨a1, a2, a3⟩ := fnOf_ok ok hf1
        obtain ⟨b1, b2, b3⟩ := fnOf_ok ok hf2
        obtain ⟨s4, h8⟩ := ck_some h7
        obtain ⟨tb, h2, h9⟩ := ob_some h8
        obtain ⟨ts, h3, h10⟩ := ob_some h9
        cases h10
        have e := of_decide_eq_true s4
        subst e
        exact de_callM a3 b3 a2 b2 ok.pass (ie _ _ h2) (plainIx_of s1) (cA_ok ie h3) a1 b1 (star_of s2) (plain_args s3)
      · cases h7
    · obtain ⟨s1, h⟩ := ck_some h
      split at h
      · rename_i hk
        obtain ⟨to, h2, h⟩ := ob_some h
        cases h
        exact de_fldI (ok.glob _ (mem_of_look hk)) (ie _ _ h2) (attrBase_of s1)
      obtain ⟨s2, h⟩ := ck_some h
      simp only [Bool.or_eq_true, decide_eq_true_eq] at s2
      obtain ⟨to, h2, h⟩ := ob_some h
      cases h
      refine de_fldX ok.xcls (fun nm hn => ?_) (ie _ _ h2) (attrBase_of s1)
      rcases s2 with rfl | rfl
      · exact ok.xcls.np nm hn
      · exact ok.xcls.nn nm hn
    · cases h
end DL
set_option Elab.async false
set_option linter.all false
set_option maxRecDepth 100000
set_option maxHeartbeats 4000000
namespace DL
open PySem PySem.Spec PyProof.Rows L2
theorem dw_of_and {X : Cx} {G : Option (Hp × DH)} {o : BoolOp} {vs : List Expr} {p : Pos} {t : DTT} (h : DT X G (.BoolOp o vs p) t) : DW X G (.BoolOp o vs p) t :=
  ⟨fun wh pins s σ H Q I q => h.run pins s σ H Q I q⟩
theorem snd_t {f : Nat} (ih : Snd f) (c : Cc) (E : DXE) (X : Cx) (G : Option (Hp × DH)) (ok : EOk c E X G) (e : Expr) (t : DTT) (h : cT c E (f + 1) e = some t) : DT X G e t := by
  have ie := ih.e c E X G ok
  have it := ih.t c E X G ok
  unfold cT at h
  split at h
  · obtain ⟨ta, h1, h⟩ := ob_some h
    cases h
    exact dt_not (it _ _ h1)
  · rename_i o a p
    cases o with
    | And => exact (dw_and1 (it _ _ h)).dt
    | Or => exact (dw_or1 (it _ _ h)).dt
  · obtain ⟨ta, h1, h⟩ := ob_some h
    obtain ⟨tb, h2, h⟩ := ob_some h
    cases h
    exact DW.dt (dw_and (it _ _ h1) (dw_of_and (it _ _ h2)))
  · obtain ⟨ta, h1, h⟩ := ob_some h
    obtain ⟨tb, h2, h⟩ := ob_some h
    cases h
    exact DW.dt (dw_or (it _ _ h1) (dw_of_and (it _ _ h2)))
  · obtain ⟨ta, h2, h⟩ := ob_some h
    cases h
    exact dt_neD ok.hu (ie _ _ h2)
  · obtain ⟨s, h⟩ := ck_some h
    obtain ⟨r, h1, h⟩ := ob_some h
    obtain ⟨ta, h2, h⟩ := ob_some h
    obtain ⟨tb, h3, h⟩ := ob_some h
    cases h
    exact dt_cmp (opC_ok ok.hu h1) (ie _ _ h2) (ie _ _ h3) (marks_of s)
  · obtain ⟨s, h⟩ := ck_some h
    obtain ⟨r, h1, h⟩ := ob_some h
    obtain ⟨r', h1', h⟩ := ob_some h
    obtain ⟨ta, h2, h⟩ := ob_some h
    obtain ⟨tb, h3, h⟩ := ob_some h
    obtain ⟨tc, h4, h⟩ := ob_some h
    cases h
    exact dt_chain (opC_ok ok.hu h1) (opC_ok ok.hu h1') (ie _ _ h2) (ie _ _ h3) (ie _ _ h4) (marks_of s)
  · obtain ⟨s, h⟩ := ck_some h
    obtain ⟨ta, h2, h⟩ := ob_some h
    cases h
    exact dt_val (ie _ _ h2) (truth_of s X.env)
theorem snd_l {f : Nat} (ih : Snd f) (c : Cc) (E : DXE) (X : Cx) (G : Option (Hp × DH)) (ok : EOk c E X G) (e : Expr) (t : DTA) (h : cL c E (f + 1) e = some t) : DLs X G e t := by
  have ie := ih.e c E X G ok
  have il := ih.l c E X G ok
  unfold cL at h
  split at h
  · obtain ⟨ts, h1, h⟩ := ob_some h
    cases h
    exact dl_lst (cA_ok ie h1)
  · rename_i elt tg iter ifs scope pos
    obtain ⟨s, h⟩ := ck_some h
    simp only [Bool.and_eq_true] at s
    obtain ⟨s0, s1, s2, s3⟩ := s
    have hk : scope.kind = .function := by
      split at s3
      · assumption
      · cases s3
    obtain ⟨di, h1, h⟩ := ob_some h
    obtain ⟨g, h2, h⟩ := ob_some h
    obtain ⟨s4, h⟩ := ck_some h
    obtain ⟨tt, h3, h⟩ := ob_some h
    obtain ⟨te, h4, h⟩ := ob_some h
    cases h
    refine dl_comp (ownOf c.N scope.names) (ok.calm s0) ok.nd (ih.i c E X G ok _ _ _ h1) (by rw [ok.N, ok.sc]; exact blkOk_by s2) (fun j hj => ?_) (fun s H C cl fp => cTg_ok (blk_ok ok hk s H C cl fp) h2) (fun s H C cl fp => ?_) (fun s H C cl fp => ih.e _ _ _ _ (blk_ok ok hk s H C cl fp) _ _ h4) (folded_of s1)
    · have z := List.all_eq_true.mp s4 j hj
      simpa using z
    · split at h3
      · cases h3; exact dts_nil
      · exact dts_one (ih.t _ _ _ _ (blk_ok ok hk s H C cl fp) _ _ h3)
      · cases h3
  · split at h
    · obtain ⟨ta, h1, h⟩ := ob_some h
      obtain ⟨tb, h2, h⟩ := ob_some h
      cases h
      exact dl_cat (il _ _ h1) (il _ _ h2)
    · obtain ⟨ta, h1, h⟩ := ob_some h
      obtain ⟨tb, h2, h⟩ := ob_some h
      cases h
      exact dl_catN (il _ _ h1) (ie _ _ h2)
    · obtain ⟨ta, h1, h⟩ := ob_some h
      obtain ⟨tb, h2, h⟩ := ob_some h
      cases h
      exact dl_catE (ie _ _ h1) (il _ _ h2)
    · cases h
  · obtain ⟨g, hg, h5⟩ := ob_some h
    clear h
    obtain ⟨hG, hO⟩ := gl_ok ok hg
    split at h5
    · obtain ⟨rfl, hm⟩ := hO
      obtain ⟨g2, hg2, h6⟩ := ob_some h5
      clear h5
      obtain ⟨hG2, hO2⟩ := gl_ok ok hg2
      split at h6
      · obtain ⟨rfl, hm2⟩ := hO2
        split at h6
        · obtain ⟨s, h6⟩ := ck_some h6
          simp only [Bool.and_eq_true] at s
          obtain ⟨ta, h1, h6⟩ := ob_some h6
          cases h6
          exact dl_listRg1 (ok.calm s.1) hG hm hG2 hm2 (ie _ _ h1) (star_of s.2)
        · obtain ⟨s, h6⟩ := ck_some h6
          simp only [Bool.and_eq_true] at s
          obtain ⟨ta, h1, h6⟩ := ob_some h6
          obtain ⟨tb, h2, h6⟩ := ob_some h6
          cases h6
          exact dl_listRg2 (ok.calm s.1) hG hm hG2 hm2 (ie _ _ h1) (ie _ _ h2) (star_of s.2.1) (star_of s.2.2) (by rw [star_of s.2.2]; rfl)
        · cases h6
      · obtain ⟨sc, h6⟩ := ck_some h6
        obtain ⟨ta, h1, h6⟩ := ob_some h6
        cases h6
        exact dl_listE (ok.calm sc) hG hm (ie _ _ h1) rfl
    · obtain ⟨rfl, hm⟩ := hO
      obtain ⟨ta, h1, h5⟩ := ob_some h5
      cases h5
      exact dl_sorted ok.hu hG hm (ih.q c E X G ok _ _ h1) rfl
    · cases h5
  · obtain ⟨s, h⟩ := ck_some h
    obtain ⟨g, hg, h5⟩ := ob_some h
    clear h
    obtain ⟨hG, hO⟩ := gl_ok ok hg
    split at h5
    · obtain ⟨rfl, hm⟩ := hO
      split at h5
      · rename_i o hv
        obtain ⟨apos, cpos, e, a1, a2⟩ := valsOf_ok hv
        subst e
        obtain ⟨sc, h5⟩ := ck_some h5
        obtain ⟨ta, h1, h5⟩ := ob_some h5
        cases h5
        exact dl_valsL (ok.calm sc) hG hm (ie _ _ h1) (attrBase_of a2) a1 (star_of s)
      · obtain ⟨sc, h5⟩ := ck_some h5
        obtain ⟨ta, h1, h5⟩ := ob_some h5
        cases h5
        exact dl_listE (ok.calm sc) hG hm (ie _ _ h1) (star_of s)
    · obtain ⟨rfl, hm⟩ := hO
      obtain ⟨ta, h1, h5⟩ := ob_some h5
      cases h5
      exact dl_sorted ok.hu hG hm (ih.q c E X G ok _ _ h1) (star_of s)
    · cases h5
  · cases h
theorem snd_q {f : Nat} (ih : Snd f) (c : Cc) (E : DXE) (X : Cx) (G : Option (Hp × DH)) (ok : EOk c E X G) (e : Expr) (t : DTA) (h : cQ c E (f + 1) e = some t) : DQ X G e t := by
  unfold cQ at h
  split at h
  · exact dq_new (ih.l c E X G ok _ _ h)
  · obtain ⟨ta, h1, h⟩ := ob_some h
    cases h
    exact dq_of (ih.e c E X G ok _ _ h1)
theorem snd_i {f : Nat} (ih : Snd f) (c : Cc) (E : DXE) (X : Cx) (G : Option (Hp × DH)) (ok : EOk c E X G) (tg e : Expr) (t : DTI) (h : cI c E (f + 1) tg e = some t) : DI X G tg e t := by
  have ie := ih.e c E X G ok
  unfold cI at h
  split at h
  · obtain ⟨ta, h1, h⟩ := ob_some h
    cases h
    exact di_new (ih.l c E X G ok _ _ h1)
  · split at h
    · obtain ⟨g, hg, h5⟩ := ob_some h
      clear h
      obtain ⟨hG, hO⟩ := gl_ok ok hg
      split at h5
      · obtain ⟨rfl, hm⟩ := hO
        split at h5
        · obtain ⟨s, h5⟩ := ck_some h5
          obtain ⟨ta, h1, h5⟩ := ob_some h5
          cases h5
          exact di_range1 hG hm (da_cons (ie _ _ h1) da_nil (star_of s)) (star_of s)
        · obtain ⟨s, h5⟩ := ck_some h5
          simp only [Bool.and_eq_true] at s
          obtain ⟨ta, h1, h5⟩ := ob_some h5
          obtain ⟨tb, h2, h5⟩ := ob_some h5
          cases h5
          exact di_range2 hG hm (da_cons (ie _ _ h1) (da_cons (ie _ _ h2) da_nil (star_of s.2)) (star_of s.1)) (by rw [star_of s.1, star_of s.2]; rfl) (star_of s.2)
        · obtain ⟨s, h5⟩ := ck_some h5
          simp only [Bool.and_eq_true] at s
          obtain ⟨s1, s2, s3⟩ := s
          obtain ⟨ta, h1, h5⟩ := ob_some h5
          obtain ⟨tb, h2, h5⟩ := ob_some h5
          obtain ⟨tc, h3, h5⟩ := ob_some h5
          cases h5
          exact di_range3 hG hm (da_cons (ie _ _ h1) (da_cons (ie _ _ h2) (da_cons (ie _ _ h3) da_nil (star_of s3)) (star_of s2)) (star_of s1)) (star_of s1) (by rw [star_of s2, star_of s3]; rfl)
        · cases h5
      · obtain ⟨rfl, hm⟩ := hO
        split at h5
        · obtain ⟨s, h5⟩ := ck_some h5
          obtain ⟨ta, h1, h5⟩ := ob_some h5
          cases h5
          exact di_enum hG hm (da_cons (ie _ _ h1) da_nil (star_of s)) (star_of s)
        · cases h5
      · obtain ⟨rfl, hm⟩ := hO
        split at h5
        · obtain ⟨s, h5⟩ := ck_some h5
          simp only [Bool.and_eq_true] at s
          obtain ⟨ta, h1, h5⟩ := ob_some h5
          obtain ⟨tb, h2, h5⟩ := ob_some h5
          cases h5
          exact di_zip hG hm (da_cons (ie _ _ h1) (da_cons (ie _ _ h2) da_nil (star_of s.2)) (star_of s.1)) (star_of s.1) (by rw [star_of s.2]; rfl)
        · obtain ⟨s, h5⟩ := ck_some h5
          simp only [Bool.and_eq_true] at s
          obtain ⟨s1, s2, s3⟩ := s
          obtain ⟨ta, h1, h5⟩ := ob_some h5
          obtain ⟨tb, h2, h5⟩ := ob_some h5
          obtain ⟨tc, h3, h5⟩ := ob_some h5
          cases h5
          exact di_zip3 hG hm (da_cons (ie _ _ h1) (da_cons (ie _ _ h2) (da_cons (ie _ _ h3) da_nil (star_of s3)) (star_of s2)) (star_of s1)) (star_of s1) (by rw [star_of s2, star_of s3]; rfl)
        · cases h5
      · obtain ⟨ta, h1, h5⟩ := ob_some h5
        cases h5
        exact di_anyE (ie _ _ h1)
    · obtain ⟨ta, h1, h⟩ := ob_some h
      cases h
      exact di_anyE (ie _ _ h1)
theorem snd : ∀ f : Nat, Snd f
  | 0 => ⟨fun _ _ _ _ _ _ _ h => (by cases h), fun _ _ _ _ _ _ _ h => (by cases h), fun _ _ _ _ _ _ _ h => (by cases h), fun _ _ _ _ _ _ _ h => (by cases h), fun _ _ _ _ _ _ _ _ h => (by cases h)⟩
  | f + 1 => ⟨snd_e (snd f), snd_t (snd f), snd_l (snd f), snd_q (snd f), snd_i (snd f)⟩
end DL
set_option Elab.async false
set_option linter.all false
set_option maxRecDepth 100000
set_option maxHeartbeats 4000000
namespace DL
open PySem PySem.Spec PyProof.Rows L2
/-- the store comes ahead of the block's end -/
def swaps (c : Cc) (y : Str) (py : Pos) : Expr → Bool
  | .ListComp _ _ scope pos => (match c.sc.names.lookup y with | some .local => true | _ => false) && (py.line == pos.line) && !(scope.names.any fun (n, k) => n == y && (k == .local || k == .cell))
  | _ => false
theorem sw_false {c : Cc} {E : DXE} {X : Cx} {G : Option (Hp × DH)} (ok : EOk c E X G) {y : Str} {py : Pos} {e : Expr} {l : Nat} (hc : (match e with | .SetComp .. => false | .DictComp .. => false | _ => true) = true) (h : swaps c y py e = false) : swapsWith e (some (.Name y py)) l X.env = pure false := by
  cases e with
  | ListComp elt gs scope pos =>
    have hb : X.env.blockKind = .function := by unfold Env.blockKind; rw [ok.sc, ok.kind]; rfl
    unfold swapsWith
    have hk : X.env.kindOf y = c.sc.names.lookup y := by unfold Env.kindOf; rw [ok.sc]
    simp only [hb, hk, Expr.pos]
    have e : ((ScopeKind.function == ScopeKind.function && c.sc.names.lookup y == some .local) && py.line == pos.line && !(scope.names.any fun (n, k) => n == y && (k == .local || k == .cell))) = false := by
      unfold swaps at h
      rw [← h]
      congr 2
      cases z : c.sc.names.lookup y with
      | none => rfl
      | some k => cases k <;> rfl
    rw [e]
  | SetComp _ _ _ _ => cases hc
  | DictComp _ _ _ _ _ => cases hc
  | _ => rfl
/-- a, b = x, y: the stores are exchanged -/
def parOk (c : Cc) (x y : Str) (px py : Pos) (a b : Expr) : Bool :=
  (match c.sc.names.lookup x with | some .local => true | _ => false) && ((match c.sc.names.lookup y with | some .local => true | _ => false) && ((px.line == py.line) && (!(decide (x = y)) && (notStar a && (notStar b && (!([a, b].all (foldedForSure 8)) && !([a, b].all (constantsAlone 8))))))))
theorem par_of {c : Cc} {E : DXE} {X : Cx} {G : Option (Hp × DH)} (ok : EOk c E X G) {x y : Str} {px py pt pt2 : Pos} {kt k2 : Nat} {a b : Expr} (h : parOk c x y px py a b = true) :
    X.env.scope.names.lookup x = some .local ∧ X.env.scope.names.lookup y = some .local ∧ x ≠ y ∧ swappedStores [.Tuple [.Name x px, .Name y py] kt pt] (.Tuple [a, b] k2 pt2) X.env = pure (some [x, y]) := by
  unfold parOk at h
  simp only [Bool.and_eq_true, Bool.not_eq_true', decide_eq_false_iff_not] at h
  obtain ⟨h1, h2, h3, h4, h5, h6, h7, h8⟩ := h
  have k1 : c.sc.names.lookup x = some .local := by
    split at h1
    · assumption
    · cases h1
  have k2' : c.sc.names.lookup y = some .local := by
    split at h2
    · assumption
    · cases h2
  refine ⟨by rw [ok.sc]; exact k1, by rw [ok.sc]; exact k2', h4, ?_⟩
  have hb : X.env.blockKind = .function := by unfold Env.blockKind; rw [ok.sc, ok.kind]; rfl
  have q1 : X.env.kindOf x = some .local := by unfold Env.kindOf; rw [ok.sc]; exact k1
  have q2 : X.env.kindOf y = some .local := by unfold Env.kindOf; rw [ok.sc]; exact k2'
  have e4 : py.line = px.line := (beq_iff_eq.mp h3).symm
  unfold swappedStores
  dsimp only
  have c1 : ¬ (!([Expr.Name x px, Expr.Name y py].length == 2 || [Expr.Name x px, Expr.Name y py].length == 3) || [a, b].length != [Expr.Name x px, Expr.Name y py].length || X.env.blockKind != .function) = true := by
    rw [hb]; intro z; cases z
  rw [if_neg c1]
  have c2 : ∀ {e : Expr}, notStar e = true → (match e with | .Starred .. => true | _ => false) = false := fun {e} h => by cases e <;> first | rfl | (simp [notStar] at h; done)
  have c3 : ([a, b].any fun | .Starred .. => true | _ => false) = false := by
    rw [List.any_cons, List.any_cons, List.any_nil]
    have z1 := c2 h5
    have z2 := c2 h6
    simp only [Bool.or_false, Bool.or_eq_false_iff]
    exact ⟨z1, z2⟩
  refine (if_neg ?c4).trans ?_
  case c4 => exact fun z => Bool.noConfusion (c3.symm.trans z)
  have nm : ([Expr.Name x px, Expr.Name y py].filterMap fun
    | .Name id pos => if X.env.kindOf id == some .local && pos.line == ([Expr.Name x px, Expr.Name y py].head?.map (·.pos.line)).getD 0 then some id else none
    | _ => none) = [x, y] := by
    simp [List.filterMap_cons, q1, q2, e4, Expr.pos]
  have ed : [x, y].eraseDups = [x, y] := by
    simp [List.eraseDups_cons, List.eraseDups_nil, h4, Ne.symm h4]
  have key : ∀ l : List Str, l = [x, y] → (if (l.length != [Expr.Name x px, Expr.Name y py].length || l.eraseDups.length != l.length) = true then pure none else if [a, b].all (foldedForSure 8) = true then pure none else if [a, b].all (constantsAlone 8) = true then (do
      let _ : Unit ← unsupported "assign.tuple-of-constant-expressions:order-of-the-stores"
      pure (some l)) else pure (some l) : Sem (Option (List Str))) = pure (some [x, y]) := by
    rintro l rfl
    rw [ed, if_neg (by simp), if_neg (by rw [h7]; simp), if_neg (by rw [h8]; simp)]
  exact key _ nm
end DL
set_option Elab.async false
set_option linter.all false
set_option maxRecDepth 100000
set_option maxHeartbeats 4000000
namespace DL
open PySem PySem.Spec PyProof.Rows L2
def noSD : Expr → Bool
  | .SetComp .. => false
  | .DictComp .. => false
  | _ => true
/-! ### try -/
def optS : Option DTS → DTS
  | some t => t
  | none => dNever
/-- what an except clause makes of an exception: its name's slot i -/
def hEA (l : List Str) (cn : Str) (i : Nat) (ts : DTS) (E : DXE) (D : DEnds) : DXE := fun env nm fs h => l.contains nm = true ∧ iteB (subC nm cn)
  (ts ⟨fun e2 h2 => D.nx (e2.set i none) h2, D.rt, fun e2 h2 => D.bk (e2.set i none) h2, fun e2 h2 => D.ct (e2.set i none) h2⟩ (env.set i (some (.exc nm fs))) h) (E env nm fs h)
def dTryA (l : List Str) (cn : Str) (i : Nat) (tb : DXE → Option DTS) (ts : DTS) (E : DXE) : DTS := fun D env h => optS (tb (hEA l cn i ts E D)) D env h
/-- .. without a name -/
def hE0 (l : List Str) (cn : Str) (ts : DTS) (E : DXE) (D : DEnds) : DXE := fun env nm fs h => l.contains nm = true ∧ iteB (subC nm cn) (ts D env h) (E env nm fs h)
def dTry0 (l : List Str) (cn : Str) (tb : DXE → Option DTS) (ts : DTS) (E : DXE) : DTS := fun D env h => optS (tb (hE0 l cn ts E D)) D env h
def Cc.loc (c : Cc) (x : Str) : Option Nat := match c.sc.names.lookup x with
  | some .local => idx x c.N
  | _ => none
/-- the class that an except clause names -/
def Cc.xname (c : Cc) (x : Str) : Bool := c.calm && (plainNm x && (c.cls.contains x && (match c.gl x with
  | some (.xc _) => true
  | _ => false)))
mutual
def cS (c : Cc) (E : DXE) : Nat → Stmt → Option DTS
  | 0, _ => none
  | f + 1, st => match st with
    | .Pass _ => some dNext
    | .Continue _ => some dCont
    | .Expr e _ => ck (notComp e) (ob (cE c E f e) fun t => some (dDrop t))
    | .Return none _ => some dRetN
    | .Return (some e) _ => (match c.told "return" e with
      | true => ob (cL c E f e) fun t => some (dRet (dNew t))
      | false => ob (cE c E f e) fun t => some (dRet t))
    | .If t a b _ => ob (cT c E f t) fun tt => ob (cSs c E f a) fun ta => ob (cSs c E f b) fun tb => some (dIf tt ta tb)
    | .Assign [.Name x py] (.Dict [] [] _) _ => ob (c.tgt x) fun i => (match c.tab.lookup x with
      | some .dctN => some (dAsg i dNewN)
      | some .dctK => some (dAsg i dNewK)
      | _ => none)
    | .Assign [.Name x py] e _ => ck (noSD e) (ob (c.tgt x) fun i => match swaps c x py e with
      | true => (match e with
        | .ListComp _ [⟨_, _, _, 0⟩] _ _ => ob (cL c E f e) fun t => (match c.told x e with
          | true => some (dAsg i (dNew t))
          | false => some (dAsg i (dNewV t)))
        | _ => none)
      | false => (match c.told x e with
        | true => ob (cL c E f e) fun t => some (dAsg i (dNew t))
        | false => ob (cE c E f e) fun t => some (dAsg i t)))
    | .Assign [.Tuple [.Name x px, .Name y py] _ _] (.Tuple [a, b] _ _) _ => ck (c.calm && parOk c x y px py a b) (ob (idx x c.N) fun i => ob (idx y c.N) fun j => ob (cA' (cE c E f) [a, b]) fun ta => some (dPar i j ta))
    | .Assign [.Tuple [.Subscript o i _, .Name x _] _ _] e _ => ck (c.calm && (notSlice i && (notComp e && notTuple e))) (ob (c.tgt x) fun j => ob (cE c E f e) fun tv => ob (cE c E f o) fun to => ob (cE c E f i) fun ti => some (dSetUnp rSetIxE tv to ti j))
    | .Assign [.Tuple es k p] e _ => ck (notTuple e && notComp e) (ob (cTg c (.Tuple es k p)) fun g => match g with
      | .tup is => ob (cE c E f e) fun t => some (dUnp is t)
      | _ => none)
    | .Assign [.Subscript o i _] e _ => ck (notSlice i && notComp e) (ob (cE c E f e) fun tv => ob (cE c E f o) fun to => ob (cE c E f i) fun ti => some (dSetIx rSetIxE tv to ti))
    | .Assign [.Attribute o fl _] e _ => ck (notComp e) (match c.tab.lookup (dotK fl) with
      | some (.fld cl) => ob (cE c E f o) fun to => (match c.told (eqK fl) e with
        | true => ob (cL c E f e) fun t => some (dSetF cl fl (dNew t) to)
        | false => ob (cE c E f e) fun t => some (dSetF cl fl t to))
      | _ => none)
    | .For tg iter body [] _ => ck (c.calm && notSet iter) (ob (cI c E f tg iter) fun di => ob (cTg c tg) fun g => ob (cSs c E f body) fun tb => some (dFor di g tb))
    | .While t body [] _ => ob (cT c E f t) fun tt => ob (cSs c E f body) fun tb => some (dWhile tt tb)
    | .Raise (some (.Call (.Name nm _) [.Constant (.str _) _ _] [] _)) none _ => (match c.calm && plainNm nm with
      | true => (match c.gl nm with
        | some (.xc (some none)) => some (dRaiseT nm E)
        | _ => some dNever)
      | false => some dNever)
    | .Raise (some (.Call (.Name nm _) [a] [] _)) none _ => (match c.calm && (plainNm nm && notStar a) with
      | true => (match c.gl nm with
        | some (.xc (some (some fl))) => ob (cE c E f a) fun t => some (dRaiseI nm fl t E)
        | _ => some dNever)
      | false => some dNever)
    | .Raise _ _ _ => some dNever
    | .Try body [.ExceptHandler (some (.Name x _)) (some n) (b₀ :: suite) _] [] [] _ => ck (c.xname x) (ob (c.loc n) fun i => ob (cSs c.hot X0 f (b₀ :: suite)) fun ts => some (dTryA c.cls x i (fun E' => cSs c E' f body) ts E))
    | .Try body [.ExceptHandler (some (.Name x _)) none (b₀ :: suite) _] [] [] _ => ck (c.xname x) (ob (cSs c.hot X0 f (b₀ :: suite)) fun ts => some (dTry0 c.cls x (fun E' => cSs c E' f body) ts E))
    | _ => none
def cSs (c : Cc) (E : DXE) : Nat → List Stmt → Option DTS
  | 0, _ => none
  | _ + 1, [] => some dNext
  | f + 1, [s] => cS c E f s
  | f + 1, s :: r => ob (cS c E f s) fun t => ob (cSs c E f r) fun u => some (dSeq t u)
end
structure SOk (c : Cc) (E : DXE) (X : Cx) (G : Option (Hp × DH)) : Prop extends EOk c E X G where
  own : PassesOwn (model X.prog X.w) X.A X.env X.xe
  tk : Takes X (lW X.K X.mg G E)
  stk : X.stack = X.env :: X.outer
  frm : X.env.frame = some X.env.locals
theorem ER.unset {K : PySem.W.Frag} {H : Hp} {env : DEnv} {σ : L2.St} (er : ER K H env σ) (i : Nat) : ER K H (env.set i none) (σ.set i none) := er_wipe er [i]
theorem takes0 {X : Cx} {G : Option (Hp × DH)} : Takes X (lW X.K X.mg G X0) := fun _ _ ⟨_, _, _, _, _, _, _, _, _, _, _, _, _, _, _, _, w⟩ => by
  obtain ⟨_, _, _, _, _, _, _, _, _, _, _, z⟩ := w
  exact z.elim
theorem hot_sok {c : Cc} {E : DXE} {X : Cx} {G : Option (Hp × DH)} (ok : SOk c E X G) (a : Addr) (pn : List (Addr × Obj)) (G' : Option (Hp × DH)) : SOk c.hot X0 (X.suite a pn) G' :=
  { hot_ok ok.toEOk a pn G' with own := PassesOwn.never, tk := takes0, stk := ok.stk, frm := ok.frm }
theorem try_sok {c : Cc} {E E' : DXE} {X : Cx} {G G' : Option (Hp × DH)} (ok : SOk c E X G) {pn : List (Addr × Obj)} {xe : Value → Shared → Prop} (tk : Takes (X.tr pn xe) (lW X.K X.mg G' E')) (own : PassesOwn (model X.prog X.w) X.A X.env xe) : SOk c E' (X.tr pn xe) G' where
  N := ok.N
  sc := ok.sc
  fn := ok.fn
  nd := ok.nd
  kind := ok.kind
  calm := ok.calm
  hu := ok.hu
  pass := fun σ => passAt tk σ
  xcls := ok.xcls
  glob := fun p hp => by
    have z := ok.glob p hp
    obtain ⟨x, g⟩ := p
    cases g with
    | xc how =>
      cases how with
      | none => exact z
      | some o => cases o <;> exact z
    | _ => exact z
  own := own
  tk := tk
  stk := ok.stk
  frm := ok.frm
theorem xname_ok {c : Cc} {E : DXE} {X : Cx} {G : Option (Hp × DH)} (ok : SOk c E X G) {x : Str} (h : c.xname x = true) : c.calm = true ∧ x ∈ c.cls ∧ Names X x (.ref (He.ga X.K x)) := by
  unfold Cc.xname at h
  simp only [Bool.and_eq_true] at h
  obtain ⟨h0, h1, h2, h3⟩ := h
  refine ⟨h0, by simpa using h2, ?_⟩
  cases e : c.gl x with
  | none => rw [e] at h3; cases h3
  | some g =>
    rw [e] at h3
    cases g with
    | xc how =>
      obtain ⟨a, b⟩ := gl_ok ok.toEOk e
      exact ⟨a, (plain_ok h1).1, .inl (xc_mg b)⟩
    | _ => cases h3
theorem noPar {es : List Expr} {k : Nat} {p : Pos} {e : Expr} {env : Env} (h : notTuple e = true) : swappedStores [.Tuple es k p] e env = pure none := by cases e <;> first | rfl | cases h
theorem noSole {t e : Expr} {l : Nat} {env : Env} (h : notComp e = true) : swapsWithSole [t] e l env = pure false := noswap_of h
theorem asgSub {o i : Expr} {p2 : Pos} {env : Env} (h : notSlice i = true) (v : Value) : assign (.Subscript o i p2) env v = (do
      let ov ← holding [v] (eval o env)
      let iv ← holding [v, ov] (eval i env)
      standAt p2
      holding [v, ov, iv] (setItem ov iv v)
      release [v, ov, iv] []) := by cases i <;> first | rfl | cases h
theorem noParS {o i e : Expr} {p : Pos} {env : Env} : swappedStores [.Subscript o i p] e env = pure none := by cases e <;> rfl
structure SndS (f : Nat) : Prop where
  s : ∀ (c : Cc) (E : DXE) (X : Cx) (G : Option (Hp × DH)), SOk c E X G → ∀ st t, cS c E f st = some t → DS X G st t
  ss : ∀ (c : Cc) (E : DXE) (X : Cx) (G : Option (Hp × DH)), SOk c E X G → ∀ st t, cSs c E f st = some t → DSs X G st t
section
variable {c : Cc} {E : DXE} {X : Cx} {G : Option (Hp × DH)} {f : Nat} {body suite : List Stmt} {b₀ : Stmt}
/-- a try's body, whatever is wished of its exceptions -/
def tBody (X : Cx) (c : Cc) (f : Nat) (body : List Stmt) (W : WX) : TS := fun D σ H => ∃ (E' : DXE) (h : DH), (∀ cl dx σ1 H1, lW X.K X.mg (some (H, h)) E' cl dx σ1 H1 → W cl dx σ1 H1) ∧ lS X.K X.mg (some (H, h)) (optS (cSs c E' f body)) D σ H
theorem body_ok (ih : SndS f) (ok : SOk c E X G) (W : WX) (pn : List (Addr × Obj)) (xe : Value → Shared → Prop) (tk : Takes (X.tr pn xe) W) (own : PassesOwn (model X.prog X.w) X.A X.env xe) : PSs (X.tr pn xe) body (tBody X c f body W) := by
  refine ⟨fun pins s σ H D I ⟨E', h, imp, q⟩ => ?_⟩
  cases e : cSs c E' f body with
  | none =>
    rw [e] at q
    obtain ⟨_, _, _, _, _, _, z, _⟩ := q
    exact z.elim
  | some t =>
    rw [e] at q
    have z : DSs (X.tr pn xe) (some (H, h)) body t := ih.ss c E' (X.tr pn xe) (some (H, h)) (try_sok ok (tk.imp imp) own) body t e
    exact z.run pins s σ H D I q
theorem ds_tryA (ih : SndS f) (ok : SOk c E X G) {x n : Str} {np pos pos' : Pos} {i : Nat} {ts : DTS} (hx : c.xname x = true) (hn : c.loc n = some i) (hs : cSs c.hot X0 f (b₀ :: suite) = some ts) :
    DS X G (.Try body [.ExceptHandler (some (.Name x np)) (some n) (b₀ :: suite) pos'] [] [] pos) (dTryA c.cls x i (fun E' => cSs c E' f body) ts E) := by
  obtain ⟨x0, x1, x2⟩ := xname_ok ok hx
  have hl : c.sc.names.lookup n = some .local ∧ idx n c.N = some i := by
    unfold Cc.loc at hn
    split at hn
    · rename_i e; exact ⟨e, hn⟩
    · cases hn
  refine PS.of (ps_tryK (tb := tBody X c f body) (ts := lS X.K X.mg none ts) ok.stk ok.frm ok.nd (by rw [ok.N]; exact idx_ok hl.2) (by unfold Env.kindOf; rw [ok.sc]; exact hl.1) x2 ok.tk (body_ok ih ok) fun a pn => ih.ss c.hot X0 (X.suite a pn) none (hot_sok ok a pn none) _ _ hs) ?_
  rintro D σ H ⟨env, h, E', g, er, hr, q, nx, rt, bk, ct⟩
  refine ⟨hEA c.cls x i ts E E', h, ?_, ⟨env, h, E', Gr.refl, er, hr, q, nx, rt, bk, ct⟩⟩
  rintro cl dx σ1 H1 ⟨env1, er1, nm, C, fs, h1, rfl, ns, gr, hr1, xf, hm, q1⟩
  have gr : Gr X.K H h H1 h1 := gr
  have hm' : nm ∈ c.cls := by simpa using hm
  have eC := ga_of ns
  refine ⟨subC nm x, by rw [← eC]; exact ok.xcls.e nm hm' x x1, fun hb a oe vs na hz hd => ?_, fun hb => ?_⟩
  · rw [hb] at q1
    have k := Gr.under (K := X.K) (h := h1) (u := .frz oe (.own a)) na
    have kk := gr.trans k
    have rp : Rp X.K (upd H1 a (.frz oe (.own a))) (.exc nm fs) (.ref a) := by
      unfold Rp
      exact ⟨a, rfl, oe, vs, C, upd_same, ns, hz.1, hd, by rw [hz.2]; exact xf.mono k.tk⟩
    exact ⟨env1.set i (some (.exc nm fs)), h1, _, trivial, (er1.mono k).set i rp, hr1.under na, q1, fun σ' H' env' h' k' e' r' z => nx _ H' _ h' (kk.trans k') (e'.unset i) r' z, fun v H' d h' k' => rt v H' d h' (kk.trans k'),
      fun σ' H' env' h' k' e' r' z => bk _ H' _ h' (kk.trans k') (e'.unset i) r' z, fun σ' H' env' h' k' e' r' z => ct _ H' _ h' (kk.trans k') (e'.unset i) r' z⟩
  · rw [hb] at q1
    exact ⟨env1, er1, nm, C, fs, h1, rfl, ns, g.on gr, hr1, xf, q1⟩
theorem ds_try0 (ih : SndS f) (ok : SOk c E X G) {x : Str} {np pos pos' : Pos} {ts : DTS} (hx : c.xname x = true) (hs : cSs c.hot X0 f (b₀ :: suite) = some ts) :
    DS X G (.Try body [.ExceptHandler (some (.Name x np)) none (b₀ :: suite) pos'] [] [] pos) (dTry0 c.cls x (fun E' => cSs c E' f body) ts E) := by
  obtain ⟨x0, x1, x2⟩ := xname_ok ok hx
  refine PS.of (ps_try_only (tb := tBody X c f body) (ts := fun _ _ _ => lS X.K X.mg none ts) ok.stk ok.frm x2 ok.tk (body_ok ih ok) fun a oe cls d pn _ _ => ih.ss c.hot X0 (X.suite a ((a, oe) :: pn)) none (hot_sok ok a _ none) _ _ hs) ?_
  rintro D σ H ⟨env, h, E', g, er, hr, q, nx, rt, bk, ct⟩
  refine ⟨hE0 c.cls x ts E E', h, ?_, ⟨env, h, E', Gr.refl, er, hr, q, nx, rt, bk, ct⟩⟩
  rintro cl dx σ1 H1 ⟨env1, er1, nm, C, fs, h1, rfl, ns, gr, hr1, xf, hm, q1⟩
  have gr : Gr X.K H h H1 h1 := gr
  have hm' : nm ∈ c.cls := by simpa using hm
  have eC := ga_of ns
  refine ⟨subC nm x, by rw [← eC]; exact ok.xcls.e nm hm' x x1, fun hb a na => ?_, fun hb => ?_⟩
  · rw [hb] at q1
    exact ⟨env1, h1, E', trivial, er1, hr1, q1, fun σ' H' env' h' k' => nx σ' H' env' h' (gr.trans k'), fun v H' d h' k' => rt v H' d h' (gr.trans k'), fun σ' H' env' h' k' => bk σ' H' env' h' (gr.trans k'), fun σ' H' env' h' k' => ct σ' H' env' h' (gr.trans k')⟩
  · rw [hb] at q1
    exact ⟨env1, er1, nm, C, fs, h1, rfl, ns, g.on gr, hr1, xf, q1⟩
end
theorem setLc_ok {c : Cc} {E : DXE} {X : Cx} {G : Option (Hp × DH)} (ok : SOk c E X G) {f i : Nat} {x : Str} {py pos spos : Pos} {elt tg iter : Expr} {ifs : List Expr} {scope : Scope} {t : DTA} (hx : c.tgt x = some i) (hs : swaps c x py (.ListComp elt [⟨tg, iter, ifs, 0⟩] scope pos) = true)
    (hL : cL c E f (.ListComp elt [⟨tg, iter, ifs, 0⟩] scope pos) = some t) : DS X G (.Assign [.Name x py] (.ListComp elt [⟨tg, iter, ifs, 0⟩] scope pos) spos) (dAsg i (dNew t)) ∧ DS X G (.Assign [.Name x py] (.ListComp elt [⟨tg, iter, ifs, 0⟩] scope pos) spos) (dAsg i (dNewV t)) := by
  cases f with
  | zero => cases hL
  | succ f =>
    unfold cL at hL
    obtain ⟨s, h⟩ := ck_some hL
    clear hL
    simp only [Bool.and_eq_true] at s
    obtain ⟨s0, s1, s2, s3⟩ := s
    have hk : scope.kind = .function := by
      split at s3
      · assumption
      · cases s3
    obtain ⟨di, h1, h⟩ := ob_some h
    obtain ⟨g, h2, h⟩ := ob_some h
    obtain ⟨s4, h⟩ := ck_some h
    obtain ⟨tt, h3, h⟩ := ob_some h
    obtain ⟨te, h4, h⟩ := ob_some h
    cases h
    unfold swaps at hs
    simp only [Bool.and_eq_true, Bool.not_eq_true'] at hs
    obtain ⟨⟨q1, q2⟩, q3⟩ := hs
    have hl : c.sc.names.lookup x = some .local := by
      split at q1
      · assumption
      · cases q1
    have ih := snd f
    constructor
    · refine ds_setLc (ownOf c.N scope.names) (ok.calm s0) ok.nd (tgt_ok ok.toEOk hx).1 (by rw [ok.sc]; exact hl) (sw_true (by rw [ok.sc]; exact ok.kind) (by rw [ok.sc]; exact hl) q2 q3) (ih.i c E X G ok.toEOk _ _ _ h1) (by rw [ok.N, ok.sc]; exact blkOk_by s2) (fun j hj => ?_)
        (fun s H C cl fp => cTg_ok (blk_ok ok.toEOk hk s H C cl fp) h2) (fun s H C cl fp => ?_) (fun s H C cl fp => ih.e _ _ _ _ (blk_ok ok.toEOk hk s H C cl fp) _ _ h4) (folded_of s1)
      · have z := List.all_eq_true.mp s4 j hj
        simpa using z
      · split at h3
        · cases h3; exact dts_nil
        · exact dts_one (ih.t _ _ _ _ (blk_ok ok.toEOk hk s H C cl fp) _ _ h3)
        · cases h3
    · refine ds_setLcV (ownOf c.N scope.names) (ok.calm s0) ok.nd (tgt_ok ok.toEOk hx).1 (by rw [ok.sc]; exact hl) (sw_true (by rw [ok.sc]; exact ok.kind) (by rw [ok.sc]; exact hl) q2 q3) (ih.i c E X G ok.toEOk _ _ _ h1) (by rw [ok.N, ok.sc]; exact blkOk_by s2) (fun j hj => ?_)
        (fun s H C cl fp => cTg_ok (blk_ok ok.toEOk hk s H C cl fp) h2) (fun s H C cl fp => ?_) (fun s H C cl fp => ih.e _ _ _ _ (blk_ok ok.toEOk hk s H C cl fp) _ _ h4) (folded_of s1)
      · have z := List.all_eq_true.mp s4 j hj
        simpa using z
      · split at h3
        · cases h3; exact dts_nil
        · exact dts_one (ih.t _ _ _ _ (blk_ok ok.toEOk hk s H C cl fp) _ _ h3)
        · cases h3
theorem snd_s {f : Nat} (ih : SndS f) (c : Cc) (E : DXE) (X : Cx) (G : Option (Hp × DH)) (ok : SOk c E X G) (st : Stmt) (t : DTS) (h : cS c E (f + 1) st = some t) : DS X G st t := by
  have ie := (snd f).e c E X G ok.toEOk
  have it := (snd f).t c E X G ok.toEOk
  have il := (snd f).l c E X G ok.toEOk
  have is := ih.ss c E X G ok
  unfold cS at h
  split at h
  · cases h; exact ds_pass
  · cases h; exact ds_continue
  · obtain ⟨s, h⟩ := ck_some h
    obtain ⟨ta, h1, h⟩ := ob_some h
    cases h
    exact ds_expr (ie _ _ h1) (noswap_of s)
  · cases h; exact ds_retN
  · split at h
    · obtain ⟨ta, h1, h⟩ := ob_some h
      cases h
      exact ds_ret (de_new (il _ _ h1))
    · obtain ⟨ta, h1, h⟩ := ob_some h
      cases h
      exact ds_ret (ie _ _ h1)
  · obtain ⟨tt, h1, h⟩ := ob_some h
    obtain ⟨ta, h2, h⟩ := ob_some h
    obtain ⟨tb, h3, h⟩ := ob_some h
    cases h
    exact ds_if (it _ _ h1) (is _ _ h2) (is _ _ h3)
  · obtain ⟨i, h1, h⟩ := ob_some h
    obtain ⟨a1, a2, a3⟩ := tgt_ok ok.toEOk h1
    split at h
    · cases h
      exact ds_set ok.nd de_newN a1 a2 (noswap_of rfl) a3
    · cases h
      exact ds_set ok.nd de_newK a1 a2 (noswap_of rfl) a3
    · cases h
  · obtain ⟨s, h⟩ := ck_some h
    obtain ⟨i, h1, h⟩ := ob_some h
    split at h
    · rename_i hw
      split at h
      · obtain ⟨ta, h2, h⟩ := ob_some h
        split at h
        · cases h
          exact (setLc_ok ok h1 hw h2).1
        · cases h
          exact (setLc_ok ok h1 hw h2).2
      · cases h
    · rename_i hw
      obtain ⟨a1, a2, a3⟩ := tgt_ok ok.toEOk h1
      split at h
      · obtain ⟨ta, h2, h⟩ := ob_some h
        cases h
        exact ds_set ok.nd (de_new (il _ _ h2)) a1 a2 (sw_false ok.toEOk s hw) a3
      · obtain ⟨ta, h2, h⟩ := ob_some h
        cases h
        exact ds_set ok.nd (ie _ _ h2) a1 a2 (sw_false ok.toEOk s hw) a3
  · obtain ⟨s, h⟩ := ck_some h
    obtain ⟨i, h1, h⟩ := ob_some h
    obtain ⟨j, h2, h⟩ := ob_some h
    obtain ⟨ta, h3, h⟩ := ob_some h
    cases h
    simp only [Bool.and_eq_true] at s
    obtain ⟨a1, a2, a3, a4⟩ := par_of ok.toEOk s.2
    refine ds_par (ok.calm s.1) ok.nd (by rw [ok.N]; exact idx_ok h1) (by rw [ok.N]; exact idx_ok h2) (fun z => ?_) a1 a2 (cA_ok ie h3) a4 rfl
    subst z
    have e := (idx_ok h1).symm.trans (idx_ok h2)
    exact a3 (Option.some.inj e)
  · obtain ⟨s, h⟩ := ck_some h
    simp only [Bool.and_eq_true] at s
    obtain ⟨s0, s1, s2, s3⟩ := s
    obtain ⟨j, h0, h⟩ := ob_some h
    obtain ⟨tv, h1, h⟩ := ob_some h
    obtain ⟨to, h2, h⟩ := ob_some h
    obtain ⟨ti, h3, h⟩ := ob_some h
    cases h
    obtain ⟨a1, a2, a3⟩ := tgt_ok ok.toEOk h0
    exact ds_setUnp (ok.calm s0) (setIxE ok.toEOk.hu) (ie _ _ h1) (ie _ _ h2) (ie _ _ h3) (pg_name ok.nd a1 a2 a3) (asgSub s1) (noSole s2) (noPar s3)
  · obtain ⟨s, h⟩ := ck_some h
    simp only [Bool.and_eq_true] at s
    obtain ⟨g, h1, h⟩ := ob_some h
    split at h
    · obtain ⟨ta, h2, h⟩ := ob_some h
      cases h
      exact ds_unp (ie _ _ h2) (cTg_ok ok.toEOk h1) (noSole s.2) (noPar s.1) rfl
    · cases h
  · obtain ⟨s, h⟩ := ck_some h
    simp only [Bool.and_eq_true] at s
    obtain ⟨s1, s2⟩ := s
    obtain ⟨tv, h1, h⟩ := ob_some h
    obtain ⟨to, h2, h⟩ := ob_some h
    obtain ⟨ti, h3, h⟩ := ob_some h
    cases h
    exact ds_setIx (setIxE ok.toEOk.hu) (ie _ _ h1) (ie _ _ h2) (ie _ _ h3) (asgSub s1) (noSole s2) noParS rfl
  · obtain ⟨s, h⟩ := ck_some h
    split at h
    · rename_i hk
      have T := ok.toEOk.glob _ (mem_of_look hk)
      obtain ⟨to, h1, h⟩ := ob_some h
      split at h
      · obtain ⟨ta, h2, h⟩ := ob_some h
        cases h
        exact ds_fldI T (ie _ _ h1) (de_new (il _ _ h2)) (noswap_of s)
      · obtain ⟨ta, h2, h⟩ := ob_some h
        cases h
        exact ds_fldI T (ie _ _ h1) (ie _ _ h2) (noswap_of s)
    · cases h
  · obtain ⟨s, h⟩ := ck_some h
    obtain ⟨di, h1, h⟩ := ob_some h
    obtain ⟨g, h2, h⟩ := ob_some h
    obtain ⟨tb, h3, h⟩ := ob_some h
    cases h
    simp only [Bool.and_eq_true] at s
    exact ds_for ok.own (ok.calm s.1) ((snd f).i c E X G ok.toEOk _ _ _ h1) (cTg_ok ok.toEOk h2) (is _ _ h3) (folded_of s.2)
  · obtain ⟨tt, h1, h⟩ := ob_some h
    obtain ⟨tb, h3, h⟩ := ob_some h
    cases h
    exact ds_while ok.own (it _ _ h1) (is _ _ h3)
  · split at h
    · rename_i hc
      simp only [Bool.and_eq_true] at hc
      split at h
      · rename_i hg
        cases h
        obtain ⟨a, b1, b2, b3, b4, b5⟩ := gl_ok ok.toEOk hg
        exact ds_raiseT (ok.calm hc.1) ok.tk b2 b3 b1 b4 b5 a (plain_ok hc.2).1
      · cases h; exact ds_never
    · cases h; exact ds_never
  · split at h
    · rename_i hc
      simp only [Bool.and_eq_true] at hc
      split at h
      · rename_i hg
        obtain ⟨ta, h1, h⟩ := ob_some h
        cases h
        obtain ⟨a, b1, b2, b3, par, fI, fd, O⟩ := gl_ok ok.toEOk hg
        exact ds_raiseI (ok.calm hc.1) ok.tk b2 O b3 b1 a (plain_ok hc.2.1).1 (ie _ _ h1) (star_of hc.2.2)
      · cases h; exact ds_never
    · cases h; exact ds_never
  · cases h; exact ds_never
  · obtain ⟨s, h⟩ := ck_some h
    obtain ⟨i, h1, h⟩ := ob_some h
    obtain ⟨ts, h2, h⟩ := ob_some h
    cases h
    exact ds_tryA ih ok s h1 h2
  · obtain ⟨s, h⟩ := ck_some h
    obtain ⟨ts, h2, h⟩ := ob_some h
    cases h
    exact ds_try0 ih ok s h2
  · cases h
theorem snd_ss {f : Nat} (ih : SndS f) (c : Cc) (E : DXE) (X : Cx) (G : Option (Hp × DH)) (ok : SOk c E X G) (st : List Stmt) (t : DTS) (h : cSs c E (f + 1) st = some t) : DSs X G st t := by
  unfold cSs at h
  split at h
  · cases h
  · cases h; exact dss_nil
  · rename_i hf; cases hf; exact dss_one (ih.s c E X G ok _ _ h)
  · rename_i hf; cases hf
    obtain ⟨ta, h1, h⟩ := ob_some h
    obtain ⟨tb, h2, h⟩ := ob_some h
    cases h
    exact dss_cons (ih.s c E X G ok _ _ h1) (ih.ss c E X G ok _ _ h2)
theorem sndS : ∀ f : Nat, SndS f
  | 0 => ⟨fun _ _ _ _ _ _ _ h => (by cases h), fun _ _ _ _ _ _ _ h => (by cases h)⟩
  | f + 1 => ⟨snd_s (sndS f), snd_ss (sndS f)⟩
end DL
set_option Elab.async false
set_option linter.all false
set_option maxRecDepth 100000
set_option maxHeartbeats 4000000
namespace DL
open PySem PySem.Spec PyProof.Rows L2
/-- what stands of a module's name, for callers of level k -/
def GS (P : Program) (w : World) (K : PySem.W.Frag) (mg : Str → Option Value) (base : Heap) (k : Nat) (x : Str) : GK → Prop
  | .int i => ∃ t, mg x = some (.int i t)
  | .str s => ∃ t, mg x = some (.str s t)
  | .bi b => x = b.nm ∧ mg x = none
  | .ty T => x = (Str.ofString T.nm) ∧ mg x = none
  | .fn n S => ∃ j f fd ps, j ≤ k ∧ mg x = some (.ref f) ∧ PySem.W.keepIn K (.ref f) = true ∧ Binds K fd ps [] ∧ FnOk P w K mg base (L2.CX P w) j f fd ps (lSp K mg n S)
  | .xc none => mg x = some (.ref (He.ga K x))
  | .xc (some none) => mg x = some (.ref (He.ga K x)) ∧ PySem.W.nsIn K mainGlobals x = some (some (.ref (He.ga K x))) ∧ PySem.W.excIn K (He.ga K x) He.veBase "ValueError.__new__" = true ∧ PySem.W.keepIn K (.ref (He.ga K x)) = true ∧ PySem.W.subIn K (.ref (He.ga K x)) (.type "BaseException") = some true ∧ PySem.W.typeIn K (.ref (He.ga K x)) = some (.type "type")
  | .xc (some (some f)) => mg x = some (.ref (He.ga K x)) ∧ PySem.W.nsIn K mainGlobals x = some (some (.ref (He.ga K x))) ∧ 2 ≤ k ∧ ∃ par fI fd, OwnI P w K mg base (He.ga K x) f par fI fd
  | .bex => x = "ValueError" ∧ mg x = none
  | .told => True
  | .dctN => True
  | .dctK => True
  | .dty => x = "dict" ∧ mg x = none
  | .rep => False
  | .mth cn n S => ∃ m, dotK m = x ∧ ∃ j f fd ps, j ≤ k ∧ mg cn = some (.ref (He.ga K cn)) ∧ Cls K (He.ga K cn) ∧ Meth K (He.ga K cn) m f ∧ Binds K fd ps [] ∧ FnOk P w K mg base (L2.CX P w) j f fd ps (lSp K mg n S)
  | .mkr n S => ∃ j f fd ps, j + 1 ≤ k ∧ mg x = some (.ref (He.ga K x)) ∧ Mk K (He.ga K x) f ∧ Binds K fd ps [] ∧ FnOk P w K mg base (L2.CX P w) j f fd ps (lSp K mg n S)
  | .cdict kvs => CdAt K w mg x kvs
  | .fld cl => ∀ p ∈ cl, InsOk K mg p.1 p.2
def TabOk (P : Program) (w : World) (K : PySem.W.Frag) (mg : Str → Option Value) (base : Heap) (k : Nat) (tab : List (Str × GK)) : Prop := ∀ p ∈ tab, GS P w K mg base k p.1 p.2
theorem FunD.fun_ {K : PySem.W.Frag} {x qual : Str} {st : Stmt} {kws : List (Str × V)} {f : Addr} {fd : FuncData} (F : FunD K x qual (defArgs st) (defBody st) (defScope st) [] kws f fd) : Fun K x qual st f fd := by
  obtain ⟨⟨oc, od, dV, kV, doc, pm, an, cdv, ct, osl, e, lk, hc, hD, _⟩, kp⟩ := F
  rcases hD with ⟨_, rfl⟩ | ⟨z, _⟩
  · exact ⟨⟨oc, od, kV, doc, pm, an, cdv, ct, osl, e, lk, hc⟩, kp⟩
  · exact absurd rfl z
section
variable {P : Program} {w : World} {K : PySem.W.Frag} {mg : Str → Option Value} {base : Heap}
theorem lSp_imp {n : Nat} {S S' : DSp} (h : ∀ ds h Q E, S' ds h Q E → S ds h Q E) (vs : List V) (H : Hp) (Q : VK) (E : XK) (q : lSp K mg n S' vs H Q E) : lSp K mg n S vs H Q E := by
  obtain ⟨ds, d, Q', E', hl, l, r, q, z⟩ := q
  exact ⟨ds, d, Q', E', hl, l, r, h _ _ _ _ q, z⟩
/-- THE RULE for a def: its reading is computed, its promise follows from the reading -/
theorem fn_c {x qual : Str} {st : Stmt} {f : Addr} {fd : FuncData} {N ps : List Str} {k : Nat} {tab : List (Str × GK)} {cls : List Str} {B : DXE → DTS} {SP : DSp} (F : Fun K x qual st f fd) (S : FnScope N ps (defScope st)) (T : TabOk P w K mg base k tab) (XC : ClsOk K cls)
    (hc : ∀ E, cSs ⟨N, defScope st, fun _ => true, tab, cls, true⟩ E 60 (defBody st) = some (B E)) (hp : ∀ ds h Q E, SP ds h Q E → dFn N.length B ds h Q E) : FnOk P w K mg base (L2.CX P w) (k + 1) f fd ps (lSp K mg ps.length SP) := by
  refine FnOk.imp (fn_ok (body := B) F S fun X G E' hP _ cdv A outer s H E hX hr tk => ?_) (lSp_imp hp)
  refine (sndS 60).ss ⟨N, defScope st, fun _ => true, tab, cls, true⟩ (fun _ => E') X G ?_ _ _ (hc fun _ => E')
  subst hX
  refine { N := rfl, sc := rfl, fn := rfl, nd := S.nd, kind := S.kind, calm := fun _ => rfl, hu := ?_, pass := fun σ => passAt tk σ, xcls := XC, own := passes_of rfl, tk := tk, stk := rfl, frm := rfl, glob := fun p hp => ?_ }
  · have := hr.un
    omega
  · have z := T _ hp
    obtain ⟨y, g⟩ := p
    cases g with
    | fn n S =>
      obtain ⟨j, f, fd, ps, hj, a, b, c, d⟩ := z
      exact ⟨j, f, fd, ps, hr.mono hj, a, b, c, d⟩
    | xc how =>
      cases how with
      | none => exact z
      | some o =>
        cases o with
        | none =>
          obtain ⟨a, b, c, d, e, f⟩ := z
          exact ⟨a, b, c, d, raises_own e f⟩
        | some f =>
          obtain ⟨a, b, c, d⟩ := z
          exact ⟨a, b, hr.mono c, d⟩
    | rep => exact z.elim
    | mth cn n S =>
      obtain ⟨m, em, j, f, fd, ps, hj, a, b, c, d, e⟩ := z
      exact ⟨m, em, j, f, fd, ps, hr.mono hj, a, b, c, d, e⟩
    | mkr n S =>
      obtain ⟨j, f, fd, ps, hj, a, b, c, d⟩ := z
      exact ⟨j, f, fd, ps, hr.mono hj, a, b, c, d⟩
    | _ => exact z
end
end DL
set_option Elab.async false
set_option linter.all false
set_option maxRecDepth 100000
set_option maxHeartbeats 4000000
namespace DL
open PySem PySem.Spec PyProof.Rows L2
/-- the end of a law: its promise at the script -/
theorem walk_ofW {l : PySem.W.OpenLaw} {n k : Nat} {q : Program} {loose : List Str} {XP : (Str → Option Value) → Heap → Prop} {YP : World → Heap → Prop} {d : DefRec} {x : Str} {SP : DSp}
    (hn : l.most = some n) (hn2 : n ≤ sizeLine) (hdf : d.params.defaults = []) (hr : Room k callerA)
    (F : ∀ (w : World) (mg : Str → Option Value) (fa : Addr) (h : Heap), YP w h → h.Ns mainGlobals mg → mg d.name = some (.ref fa) →
      ∃ (K : PySem.W.Frag) (fd : FuncData), K.In h ∧ (∀ (s : Shared) (u : Value), BindsTo s fd ⟨[u], []⟩ [(x, u)]) ∧
        ∀ base : Heap, K.In base → base.Ns mainGlobals mg → FnOk l.prog w K mg base (L2.CX l.prog w) k fa fd [x] (lSp K mg 1 SP))
    (law : ∀ ns : List Int, ns.length ≤ n → SP [.scr (ns.map .int)] (fun _ => none) (fun d _ => d = .bl true) fun _ _ _ => False) :
    PySem.W.WalkO q loose XP YP l.row.toRowW d [] (fun f vs => PySem.call f vs) := by
  refine Att.attach_call hn hdf fun w s₀ s₁ mg mb fa o pm cd doc a vs ns G Y ho hd hcd hmg hobj hints hlen hg => ?_
  obtain ⟨K, fd, KX, hb, hF⟩ := F w mg fa _ Y G.T.g hmg
  refine law_call KX G.T.g G.T.b G.T.builtins G.T.nolimit hg hobj hints (Nat.le_trans hlen hn2) hr hF hb (fun H hO hS => ?_) fun H e s' z => ?_
  · refine ⟨[.scr (ns.map .int)], fun _ => none, _, _, rfl, ?_, (fun a o e => by cases e), law ns hlen, fun v H' d h' _ _ p q => ?_, fun c dx H' z => ?_⟩
    · refine RpL.cons ?_ RpL.nil
      unfold Rp
      refine ⟨a, ns.map V.int, rfl, ?_, ?_⟩
      · rcases hS with (hS | hS) | hS
        · rcases hO a with z | ⟨o, xs, z⟩
          · rw [z] at hS; cases hS
          · rw [z] at hS; cases hS
        · exact .inl hS
        · exact .inr hS
      · clear hlen hints hS
        induction ns with
        | nil => exact RpL.nil
        | cons i r ih => exact RpL.cons (by unfold Rp; rfl) ih
    · subst q
      unfold Rp at p
      exact p
    · obtain ⟨_, _, _, _, _, _, _, _, _, z⟩ := z
      exact z
  · obtain ⟨_, _, _, _, _, _, _, _, _, _, _, _, z⟩ := z
    exact z
section
variable {P : Program} {w : World} {K : PySem.W.Frag} {mg : Str → Option Value} {base : Heap} {k : Nat} {x : Str} {tab : List (Str × GK)}
theorem tab_nil : TabOk P w K mg base k [] := fun _ h => by cases h
theorem tab_cons {g : GK} (a : GS P w K mg base k x g) (b : TabOk P w K mg base k tab) : TabOk P w K mg base k ((x, g) :: tab) := fun p h => by
  rcases List.mem_cons.mp h with z | z
  · subst z; exact a
  · exact b p z
theorem gs_bi {b : BI} (e : x = b.nm) (h : mg x = none) : GS P w K mg base k x (.bi b) := ⟨e, h⟩
theorem gs_ty {b : TyK} (e : x = Str.ofString b.nm) (h : mg x = none) : GS P w K mg base k x (.ty b) := ⟨e, h⟩
theorem gs_int {i : Int} (h : ∃ t, mg x = some (.int i t)) : GS P w K mg base k x (.int i) := h
theorem gs_str {i : Str} (h : ∃ t, mg x = some (.str i t)) : GS P w K mg base k x (.str i) := h
theorem gs_fn {n : Nat} {S : DSp} {j : Nat} {f : Addr} {fd : FuncData} {ps : List Str} (hj : j ≤ k) (a : mg x = some (.ref f)) (b : PySem.W.keepIn K (.ref f) = true) (c : Binds K fd ps []) (d : FnOk P w K mg base (L2.CX P w) j f fd ps (lSp K mg n S)) : GS P w K mg base k x (.fn n S) := ⟨j, f, fd, ps, hj, a, b, c, d⟩
theorem gs_fld {cl : InsT} (h : ∀ p ∈ cl, InsOk K mg p.1 p.2) : GS P w K mg base k x (.fld cl) := h
theorem ins_nil : ∀ p ∈ ([] : InsT), InsOk K mg p.1 p.2 := fun _ h => by cases h
theorem ins_cons {c : Str} {gs : List Str} {cl : InsT} (a : InsOk K mg c gs) (b : ∀ p ∈ cl, InsOk K mg p.1 p.2) : ∀ p ∈ (c, gs) :: cl, InsOk K mg p.1 p.2 := fun p h => by
  rcases List.mem_cons.mp h with z | z
  · subst z; exact a
  · exact b p z
theorem gs_mth {cn m : Str} {n : Nat} {S : DSp} {j : Nat} {fd : FuncData} {ps : List Str} (e : dotK m = x) (hj : j ≤ k) (a : mg cn = some (.ref (He.ga K cn))) (b : Cls K (He.ga K cn)) (c : Meth K (He.ga K cn) m (He.ma K (He.ga K cn) m)) (d : Binds K fd ps []) (f : FnOk P w K mg base (L2.CX P w) j (He.ma K (He.ga K cn) m) fd ps (lSp K mg n S)) : GS P w K mg base k x (.mth cn n S) :=
  ⟨m, e, j, _, fd, ps, hj, a, b, c, d, f⟩
theorem gs_mkr {n : Nat} {S : DSp} {j : Nat} {fd : FuncData} {ps : List Str} (hj : j + 1 ≤ k) (a : mg x = some (.ref (He.ga K x))) (b : Mk K (He.ga K x) (He.ma K (He.ga K x) "__init__")) (d : Binds K fd ps []) (f : FnOk P w K mg base (L2.CX P w) j (He.ma K (He.ga K x) "__init__") fd ps (lSp K mg n S)) : GS P w K mg base k x (.mkr n S) :=
  ⟨j, _, fd, ps, hj, a, b, d, f⟩
theorem gs_dctN : GS P w K mg base k x .dctN := trivial
theorem gs_dctK : GS P w K mg base k x .dctK := trivial
theorem gs_dty (h : mg "dict" = none) : GS P w K mg base k "dict" .dty := ⟨rfl, h⟩
theorem gs_told : GS P w K mg base k x .told := trivial
theorem gs_bex (h : mg "ValueError" = none) : GS P w K mg base k "ValueError" .bex := ⟨rfl, h⟩
theorem gs_xn (h : mg x = some (.ref (He.ga K x))) : GS P w K mg base k x (.xc none) := h
theorem gs_xt (h : mg x = some (.ref (He.ga K x))) (n : PySem.W.nsIn K mainGlobals x = some (some (.ref (He.ga K x)))) (c : (He.Fa.exc x).ok K = true) : GS P w K mg base k x (.xc (some none)) := by
  obtain ⟨a, b, d, e⟩ := He.exc_ok c
  exact ⟨h, n, a, b, d, e⟩
theorem gs_xi {f par : Str} {fI : Addr} {fd : FuncData} (h : mg x = some (.ref (He.ga K x))) (n : PySem.W.nsIn K mainGlobals x = some (some (.ref (He.ga K x)))) (hk : 2 ≤ k) (o : OwnI P w K mg base (He.ga K x) f par fI fd) : GS P w K mg base k x (.xc (some (some f))) := ⟨h, n, hk, par, fI, fd, o⟩
/-- a def that calls itself: its promise by depth -/
theorem rec_ok {f : Addr} {fd : FuncData} {ps : List Str} {n b d : Nat} {q : Nat → DSp} (h0 : True → FnOk P w K mg base (L2.CX P w) b f fd ps (lSp K mg n (q 0))) (hs : ∀ j, FnOk P w K mg base (L2.CX P w) (b + j) f fd ps (lSp K mg n (q j)) → FnOk P w K mg base (L2.CX P w) (b + j + 1) f fd ps (lSp K mg n (q (j + 1)))) :
    FnOk P w K mg base (L2.CX P w) (b + d) f fd ps (lSp K mg n (q d)) := by
  induction d with
  | zero => exact h0 trivial
  | succ j ih => exact hs j ih
end
/-! ### the head's facts: with more that is asked of the written part -/
def asX (g : Addr → Option Obj) (n : Nat) : List Addr := cStatics :: He.asD g n
abbrev AlX : Type := He.AlD × Bool
def obsX (fa : List He.Fa) (fn : List He.DefD) (ex : PySem.W.Frag → Bool) (K : PySem.W.Frag) : AlX := (He.obsD fa fn K, ex K)
def obsXG (n : Nat) (fa : List He.Fa) (fn : List He.DefD) (ex : PySem.W.Frag → Bool) (g : Addr → Option Obj) : AlX := obsX fa fn ex (He.frG g (asX g n))
def hookX (n : Nat) (fa : List He.Fa) (fn : List He.DefD) (ex : PySem.W.Frag → Bool) : PySem.W.Hook where
  α := AlX
  obs := fun s => obsXG n fa fn ex s.heap.get?
  val := fun _ => (He.valD fn, true)
  says := fun _ h => ∃ K : PySem.W.Frag, K.In h ∧ He.SaysD fa fn K ∧ ex K = true
  of := fun _ _ e => ⟨_, He.frG_in, congrArg Prod.fst e, congrArg Prod.snd e⟩
  keeps := fun _ _ _ ⟨K, hK, c, d⟩ k => ⟨K, PySem.W.Frag.In.keeps hK k, c, d⟩
theorem obsXG_eq {n : Nat} {fa : List He.Fa} {fn : List He.DefD} {ex : PySem.W.Frag → Bool} {g : Addr → Option Obj} {s : Shared} (h : ∀ a, g a = s.heap.get? a) : obsXG n fa fn ex g = (hookX n fa fn ex).obs s := by
  have e : g = s.heap.get? := funext h
  rw [e] <;> rfl
/-! .. and tables: dicts of the module -/
abbrev AlY : Type := AlX × List (Option (List (Option (Str × Int))))
def tabsK (ts : List He.Tab) (K : PySem.W.Frag) : List (Option (List (Option (Str × Int)))) := ts.map fun t => He.dicW K (t.1 K)
def tabsW (ts : List He.Tab) (w : World) : List (Option (List (Option (Str × Int)))) := ts.map fun t => some (He.keysIn w.params t.2)
def obsY (fa : List He.Fa) (fn : List He.DefD) (ex : PySem.W.Frag → Bool) (ts : List He.Tab) (K : PySem.W.Frag) : AlY := (obsX fa fn ex K, tabsK ts K)
def obsYG (n : Nat) (fa : List He.Fa) (fn : List He.DefD) (ex : PySem.W.Frag → Bool) (ts : List He.Tab) (g : Addr → Option Obj) : AlY := obsY fa fn ex ts (He.frG g (asX g n))
def hookY (n : Nat) (fa : List He.Fa) (fn : List He.DefD) (ex : PySem.W.Frag → Bool) (ts : List He.Tab) : PySem.W.Hook where
  α := AlY
  obs := fun s => obsYG n fa fn ex ts s.heap.get?
  val := fun w => ((He.valD fn, true), tabsW ts w)
  says := fun w h => ∃ K : PySem.W.Frag, K.In h ∧ He.SaysD fa fn K ∧ ex K = true ∧ tabsK ts K = tabsW ts w
  of := fun _ _ e => ⟨_, He.frG_in, congrArg (fun z : AlY => z.1.1) e, congrArg (fun z : AlY => z.1.2) e, congrArg (fun z : AlY => z.2) e⟩
  keeps := fun _ _ _ ⟨K, hK, c, d, f⟩ k => ⟨K, PySem.W.Frag.In.keeps hK k, c, d, f⟩
theorem obsYG_eq {n : Nat} {fa : List He.Fa} {fn : List He.DefD} {ex : PySem.W.Frag → Bool} {ts : List He.Tab} {g : Addr → Option Obj} {s : Shared} (h : ∀ a, g a = s.heap.get? a) : obsYG n fa fn ex ts g = (hookY n fa fn ex ts).obs s := by
  have e : g = s.heap.get? := funext h
  rw [e] <;> rfl
theorem tab_at {ts : List He.Tab} {w : World} {K : PySem.W.Frag} (c : tabsK ts K = tabsW ts w) (i : Nat) {t : He.Tab} (h : ts[i]? = some t := by rfl) : ∃ es n, L2.KDict K w (t.1 K) es n := by
  unfold tabsK tabsW at c
  have e2 : (ts.map fun t => He.dicW K (t.1 K))[i]? = (ts.map fun t => some (He.keysIn w.params t.2))[i]? := by rw [c]
  rw [List.getElem?_map, List.getElem?_map, h] at e2
  exact He.dicW_ok (Option.some.inj e2)
def cdB (K : PySem.W.Frag) (x : Str) (kvs : List (Str × L2.Key)) : Bool := match K.lookup (He.ga K x) with
  | some ⟨_, _, .dict es _, _⟩ => decide (es.toList.map entC = kvs.map some)
  | _ => false
theorem gs_cd {P : Program} {w : World} {K : PySem.W.Frag} {mg : Str → Option Value} {base : Heap} {k : Nat} {x : Str} {kvs : List (Str × L2.Key)} (hm : mg x = some (.ref (He.ga K x))) (h : ∃ es n, L2.KDict K w (He.ga K x) es n) (hc : cdB K x kvs = true) : GS P w K mg base k x (.cdict kvs) := by
  obtain ⟨es, n, D⟩ := h
  refine ⟨_, es, n, hm, D, ?_⟩
  unfold cdB at hc
  rw [D.at_] at hc
  exact of_decide_eq_true hc
/-! a class with B.__init__(self, '..'); self.f = x -/
def oexObj (K : PySem.W.Frag) (C : Addr) : Bool := match K.lookup C with
  | some ⟨.type "type", _, .cls cd, sl⟩ => (match cd.mro, sl.toList with
    | .ref C' :: bm, [_, _, _, _, some (.builtin n), _] => C' == C && n == "ValueError.__new__" && cd.hasDict && !cd.hasDel && PySem.HandSPX.refsVE bm
    | _, _ => false)
  | _ => false
def oexB (K : PySem.W.Frag) (x f : Str) : Bool := oexObj K (He.ga K x) && (He.eqO (PySem.W.findIn K (.ref (He.ga K x)) "__setattr__") (some (some (.builtin "object.__setattr__"))) && (decide (PySem.W.subIn K (.ref (He.ga K x)) (.type "BaseException") = some true) &&
  (decide (PySem.W.typeIn K (.ref (He.ga K x)) = some (.type "type")) && (PySem.W.keepIn K (.ref (He.ga K x)) && (He.eqO (PySem.W.findIn K (.ref (He.ga K x)) "__init__") (some (some (.ref (He.ma K (He.ga K x) "__init__")))) && (decide (PySem.W.typeIn K (.ref (He.ma K (He.ga K x) "__init__")) = some (.type "function")) &&
  He.eqO (PySem.W.findIn K (.ref (He.ga K x)) f) (some none)))))))
def basB (K : PySem.W.Frag) (x : Str) : Bool := He.eqO (PySem.W.specialIn K (.ref (He.ga K x)) "__getattribute__") (some (some (.builtin "type.__getattribute__"))) && (decide (PySem.W.typeIn K (.ref (He.ga K x)) = some (.type "type")) && (PySem.W.readsIn K (He.ga K x) (.type "type") &&
  (match PySem.W.findCls K (.ref (He.ga K x)) (.type "type") "__init__" with
    | some (.val (.builtin n)) => n == "ValueError.__init__"
    | _ => false)))
theorem basB_ok {K : PySem.W.Frag} {x : Str} (h : basB K x = true) : BasC K (He.ga K x) := by
  unfold basB at h
  simp only [Bool.and_eq_true] at h
  obtain ⟨a, b, c, d⟩ := h
  refine ⟨He.eqO_ok a, of_decide_eq_true b, c, ?_⟩
  split at d
  · rename_i n e
    rw [e, beq_iff_eq.mp d]
  · cases d
theorem oexB_ok {K : PySem.W.Frag} {x f : Str} (h : oexB K x f = true) : OexC K (He.ga K x) ∧ PySem.W.findIn K (.ref (He.ga K x)) "__init__" = some (some (.ref (He.ma K (He.ga K x) "__init__"))) ∧ PySem.W.typeIn K (.ref (He.ma K (He.ga K x) "__init__")) = some (.type "function") ∧ PySem.W.findIn K (.ref (He.ga K x)) f = some none := by
  unfold oexB at h
  simp only [Bool.and_eq_true] at h
  obtain ⟨a, b, c, d, e, g, i, j⟩ := h
  refine ⟨⟨?_, He.eqO_ok b, of_decide_eq_true c, of_decide_eq_true d, e⟩, He.eqO_ok g, of_decide_eq_true i, He.eqO_ok j⟩
  unfold oexObj at a
  split at a
  · rename_i dd cd sl ho
    split at a
    · rename_i C' bm k0 k1 k2 k3 n k5 hm hs
      simp only [Bool.and_eq_true, beq_iff_eq, Bool.not_eq_true'] at a
      obtain ⟨⟨⟨⟨e1, e2⟩, hdct⟩, hdel⟩, hbm⟩ := a
      obtain ⟨nm, bs, mro, ns, qn, hd, sn, sub, ab, col, del⟩ := cd
      dsimp only at hm hdel hdct
      subst hm hdel hdct e1 e2
      have hsl : sl = #[k0, k1, k2, k3, some (.builtin "ValueError.__new__"), k5] := by
        obtain ⟨l⟩ := sl
        simp only at hs
        rw [hs]
      subst hsl
      exact ⟨nm, qn, ns, bs, bm, sn, sub, ab, col, dd, k0, k1, k2, k3, k5, ho, hbm⟩
    · cases a
  · cases a
/-- its __init__ keeps its promise -/
theorem own_init {P : Program} {w : World} {K : PySem.W.Frag} {mg : Str → Option Value} {base : Heap} {x f par qual : Str} {st : Stmt} {fd : FuncData} (O : oexB K x f = true) (B : basB K "DeedError" = true) (hm : mg "DeedError" = some (.ref (He.ga K "DeedError"))) (F : Fun K "__init__" qual st (He.ma K (He.ga K x) "__init__") fd)
    (S : FnScope ["self", par] ["self", par] (defScope st)) (hb : initShape (defBody st) = some (f, par)) (ls : (defScope st).names.lookup ("self" : Str) = some .local) (lp : (defScope st).names.lookup par = some .local) (lg : (defScope st).names.lookup ("DeedError" : Str) = some .globalImplicit)
    (hd1 : (par == ("__debug__" : Str)) = false) (hd2 : (par == ("__classdict__" : Str)) = false) (bn : Binds K fd ["self", par] []) : OwnI P w K mg base (He.ga K x) f par (He.ma K (He.ga K x) "__init__") fd := by
  obtain ⟨o1, o2, o3, o4⟩ := oexB_ok O
  exact ⟨o1, o2, o3, bn, init_ok F S hb ls lp lg hd1 hd2 o1 (basB_ok B) hm o4⟩
end DL
set_option Elab.async false
set_option linter.all false
set_option maxRecDepth 100000
set_option maxHeartbeats 4000000
namespace DL
open PySem PySem.Spec PyProof.Rows L2
/-! ### a def called from one place alone: what stands around it is known -/
def RunOk (P : Program) (w : World) (K : PySem.W.Frag) (mg : Str → Option Value) (base : Heap) (CX : CXT) (A : Around) (f : Addr) (fd : FuncData) (ps : List Str) (sp : Sp) : Prop :=
  ∀ (outer : List Env) (s : Shared) (H : Hp) (args : Args) (us : List Value) (vs : List V) (Q : VK) (E : XK), Env0 P w K mg base A outer s H → BindsTo s fd args (ps.zip us) → Vals vs us → sp vs H Q E → codeAny (model P w) A (.call (.ref f) args) (CR CX outer P w H s Q E) s
section
variable {P : Program} {w : World} {K : PySem.W.Frag} {mg : Str → Option Value} {base : Heap} {A : Around}
theorem run_of {CX : CXT} {k : Nat} {f : Addr} {name qual : Str} {params : Arguments} {body : List Stmt} {scope : Scope} {dV kV doc pm cdv ct oc : Value} {an od : Option Addr} {osl : Array (Option Value)} {N ps : List Str} {sp : Sp} (hr : Room (k + 1) A)
    (lk : K.lookup f = some ⟨oc, od, .func (PySem.W.fnOf name qual params body scope dV kV doc pm an cdv ct), osl⟩) (hcd : PySem.W.codeIn K cdv qual = true) (S : FnScope N ps scope) (len : ∀ vs H Q E, sp vs H Q E → vs.length = ps.length)
    (go : ∀ (outer : List Env) (s : Shared) (H : Hp) (vs : List V) (Q : VK) (E : XK), sp vs H Q E → ∃ t, PSs (cxOf CX P w K mg base N qual scope f cdv A outer s H E) body t ∧ t { nx := fun _ H' => Q .non H', rt := Q } (L2.start N vs) H) :
    RunOk P w K mg base CX A f (PySem.W.fnOf name qual params body scope dV kV doc pm an cdv ct) ps sp := by
  intro outer s H args us vs Q E env0 bnd rel promise
  have lenS := len vs H Q E promise
  have kIn : K.In s.heap := env0.mod.kin.keeps fun a ob z => (env0.bs a ob z).1
  have noL : s.heap.NoLimit := env0.mod.nolimit.keeps fun a ob z => (env0.bs a ob z).1
  have kinds : ∀ z ∈ ps.zip us, scope.names.lookup z.1 = some .local ∨ (scope.names.lookup z.1 = some .cell ∧ ((cellsFrom (s.heap.objs.size + 1) scope.names []).lookup z.1).isSome = true) := fun z hz =>
    (S.par z.1 (List.of_mem_zip (show (z.1, z.2) ∈ ps.zip us from hz)).1).imp id fun c => ⟨c, PySem.W.cellsFrom_some _ _ _ (.inl c)⟩
  refine codeAny_call_function hr.depth (kIn _ _ lk) rfl S.co S.gen rfl (PySem.W.codeRec_of kIn hcd) (bnd _ _ _ _ (wpAny_newFunctionEnv_cells S.kind kinds fun en hen s2 y => ?_))
  subst hen
  refine ⟨noL.keeps y.toInCall.keep, codeAny_func ?_⟩
  obtain ⟨t, pt, qt⟩ := go outer s H vs Q E promise
  have J0 : Inv (cxOf CX P w K mg base N qual scope f cdv A outer s H E) [] (L2.start N vs) H s2 := inv_start S hr.hd env0 lenS rel y
  refine wpAny_mono (pt.run [] s2 (L2.start N vs) H _ J0 qt) (fun out s3 z => ?_) fun ex s3 z => z
  match out, z with
  | .ret u, ⟨v, σ2, H2, J, rv, q⟩ => exact ⟨v, H2, J.os, J.bare, J.base, J.hok, rv, q⟩
  | .next, ⟨σ2, H2, J, q⟩ => exact ⟨V.non, H2, J.os, J.bare, J.base, J.hok, rfl, q⟩
  | .brk, ⟨_, _, _, q⟩ => exact q.elim
  | .cont, ⟨_, _, _, q⟩ => exact q.elim
end
/-- the law's call, by what it does there -/
theorem law_callR {P : Program} {w : World} {K : PySem.W.Frag} {mg mb : Str → Option Value} {CX : CXT} {fa a : Addr} {fd : FuncData} {x : Str} {sp : Sp} {s1 : Shared} {us : List Value} {ns : List Int} (kIn : K.In s1.heap) (gns : s1.heap.Ns mainGlobals mg) (bns : s1.heap.Ns builtinsNs mb)
    (bbt : ∀ y : Str, y ≠ "__name__" → mb y = bootBuiltins y) (lim : s1.heap.NoLimit) (gen0 : s1.gens = #[]) (obA : s1.heap.get? a = some { cls := .type "list", data := .seq us.toArray }) (allI : IntsAre us ns) (short : ns.length ≤ sizeLine)
    (F : ∀ base : Heap, K.In base → base.Ns mainGlobals mg → RunOk P w K mg base CX callerA fa fd [x] sp) (bnd : ∀ (s : Shared) (u : Value), BindsTo s fd ⟨[u], []⟩ [(x, u)])
    (hsp : ∀ H : Hp, Only H → SqL K H a (ns.map V.int) → sp [.ref a] H (fun v _ => v = .bl true) fun _ _ _ => False) (noX : ∀ H e s', CX [] H s1 (fun _ _ _ => False) e s' → False) :
    codeAny (model P w) callerA (.call (.ref fa) ⟨[.ref a], []⟩) (fun r s' => r = .ok (.ret (.bool true)) ∧ OldK s1.heap s'.heap ∧ s'.os = s1.os ∧ AllBare s'.gens) s1 := by
  have rel := vals_ints allI
  have main : ∀ H : Hp, Only H → SqL K H a (ns.map V.int) → HOk P w H s1.heap → (∀ b, H b ≠ none → b = a) → (H a ≠ none → K.lookup a = none) → codeAny (model P w) callerA (.call (.ref fa) ⟨[.ref a], []⟩) (fun r s' => r = .ok (.ret (.bool true)) ∧ OldK s1.heap s'.heap ∧ s'.os = s1.os ∧ AllBare s'.gens) s1 := by
    intro H only sq hok onlyA noK
    have toB : ∀ {b : Addr} {ob : Obj}, s1.heap.get? b = some ob → H b = none → (hidT s1.heap H).get? b = some ob := fun z n => hidT_get z n
    have dictN : ∀ {b : Addr} {ob : Obj} {es : Array DictEntry} {ep : Nat}, s1.heap.get? b = some ob → ob.data = .dict es ep → H b = none := fun {b ob es ep} z d => by
      cases c : H b with
      | none => rfl
      | some u0 =>
        have same : b = a := onlyA b (by rw [c]; simp)
        rw [same, obA] at z
        cases z
        exact nomatch (show Data.seq us.toArray _ = Data.dict es ep from d)
    have nsB : ∀ {b : Addr} {mm : Str → Option Value}, s1.heap.Ns b mm → (hidT s1.heap H).Ns b mm := fun {b mm} ⟨ob, es, ep, z, d, r⟩ => ⟨ob, es, ep, toB z (dictN z d), d, r⟩
    have kB : K.In (hidT s1.heap H) := fun b ob z => toB (kIn b ob z) (by
      cases c : H b with
      | none => rfl
      | some u0 =>
        have same : b = a := onlyA b (by rw [c]; simp)
        rw [same, noK (by rw [← same, c]; simp)] at z
        cases z)
    obtain ⟨mc, l1, l2⟩ := lim
    have md : Mod K mg (hidT s1.heap H) := ⟨kB, nsB gns, ⟨mb, nsB bns, bbt⟩, ⟨mc, nsB l1, l2⟩⟩
    have env0 : Env0 P w K mg (hidT s1.heap H) callerA [] s1 H := ⟨rfl, md, fun b ob z => of_hidT z, Nat.le_of_eq (hidT_size _ _), trivial, (fun b z => (List.not_mem_nil (show b ∈ ([] : List Addr) from z)).elim), hok, .of_eq gen0⟩
    refine codeAny_mono (F _ kB (nsB gns) [] s1 H ⟨[.ref a], []⟩ [.ref a] [.ref a] _ _ env0 (bnd s1 (.ref a)) (.cons rfl .nil) (hsp H only sq)) fun out s2 z => ?_
    match out, z with
    | .error e, z => exact (noX H e s2 z).elim
    | .ok .next, z => exact False.elim z
    | .ok .brk, z => exact False.elim z
    | .ok .cont, z => exact False.elim z
    | .ok (.ret u), ⟨v, H2, os2, bare2, un, hok2, rv, q⟩ =>
      have q2 : v = .bl true := q
      subst q2
      have eu : u = Value.bool true := rv
      subst eu
      refine ⟨rfl, OldK.of_keep fun b ob z => ?_, os2, bare2⟩
      cases c : H b with
      | none => exact un.keep b ob z c (fun y => (List.not_mem_nil (show b ∈ ([] : List Addr) from y)).elim) (by simp)
      | some u0 =>
        rcases only b with y | ⟨o2, xs, y⟩
        · rw [c] at y; cases y
        · obtain ⟨g1, _⟩ := hok b _ y
          obtain ⟨g2, _⟩ := hok2 b _ (un.frzs b o2 _ y)
          rw [z] at g1
          cases g1
          exact g2
  cases c : K.lookup a with
  | some ob =>
    have z := kIn a ob c
    rw [obA] at z
    cases z
    exact main (fun _ => none) (fun _ => .inl rfl) (.inr ⟨_, us.toArray, _, c, rfl, rfl, rfl, by rw [List.size_toArray, allI.length]; exact short, by simpa using rel⟩) (fun b u z => nomatch (show (none : Option HO) = some u from z)) (fun b z => (z rfl).elim) fun z => (z rfl).elim
  | none =>
    have hA : ∀ b, b = a → (if b = a then some (HO.frz { cls := .type "list", data := .seq us.toArray } (.lst (ns.map V.int))) else none) = some (HO.frz { cls := .type "list", data := .seq us.toArray } (.lst (ns.map V.int))) := fun b z => if_pos z
    refine main (fun b => if b = a then some (.frz { cls := .type "list", data := .seq us.toArray } (.lst (ns.map V.int))) else none) (fun b => ?_) (.inl (.inr ⟨{ cls := .type "list", data := .seq us.toArray }, if_pos rfl⟩)) (fun b u z => ?_) (fun b z => ?_) fun _ => c
    · by_cases y : b = a
      · exact .inr ⟨_, _, if_pos y⟩
      · exact .inl (if_neg y)
    · by_cases y : b = a
      · have z2 := (hA b y).symm.trans z
        cases z2
        subst y
        exact ⟨obA, by rw [List.length_map]; exact short, us, _, rel, obA⟩
      · exact nomatch ((if_neg y).symm.trans z)
    · exact Classical.byContradiction fun y => z (if_neg y)
section
variable {P : Program} {w : World} {K : PySem.W.Frag} {mg : Str → Option Value} {base : Heap} {A : Around}
theorem RunOk.imp {CX : CXT} {f : Addr} {fd : FuncData} {ps : List Str} {sp sp' : Sp} (F : RunOk P w K mg base CX A f fd ps sp) (i : ∀ vs H Q E, sp' vs H Q E → sp vs H Q E) : RunOk P w K mg base CX A f fd ps sp' :=
  fun outer s H args us vs Q E he hb hv hs => F outer s H args us vs Q E he hb hv (i _ _ _ _ hs)
theorem run_seal {CX : CXT} {f : Addr} {fd : FuncData} {ps : List Str} {sp : Sp} (F : RunOk P w K mg base CX A f fd ps sp) : RunOk P w K mg base CX A f fd ps (fun vs H Q E => sp vs H (slQ P w Q) E) :=
  fun outer s H args us vs Q E he hb hv hs => codeAny_mono (F outer s H args us vs (slQ P w Q) E he hb hv hs) fun r s' z => by
    cases r with
    | error e => exact z
    | ok x =>
      cases x with
      | ret u =>
        obtain ⟨v, H', os, ba, un, ho, rv, q⟩ := z
        obtain ⟨H2, g, q2⟩ := q s'.heap ho
        exact ⟨v, H2, os, ba, g.un un, g.hok ho, rv, q2⟩
      | _ => exact z
/-- the rule for a def that is called there -/
theorem run_ok {x qual : Str} {st : Stmt} {f : Addr} {fd : FuncData} {N ps : List Str} {k : Nat} {body : DXE → DTS} (hr : Room (k + 1) A) (F : Fun K x qual st f fd) (S : FnScope N ps (defScope st))
    (hb : ∀ (X : Cx) (G : Option (Hp × DH)) (E' : DX), ∀ (cdv : Value) (outer : List Env) (s : Shared) (H : Hp) (E : XK), X = cxOf (L2.CX P w) P w K mg base N qual (defScope st) f cdv A outer s H E → Room k X.A → Takes X (lW K mg G fun _ => E') → DSs X G (defBody st) (body fun _ => E')) :
    RunOk P w K mg base (L2.CX P w) A f fd ps (lSp K mg ps.length (dFn N.length body)) := by
  have F0 : RunOk P w K mg base (L2.CX P w) A f fd ps (lSp K mg ps.length (dFn0 N.length body)) := by
    obtain ⟨oc, od, kV, doc, pm, an, cdv, ct, osl, rfl, lk, hcd⟩ := F.ex
    refine run_of hr lk hcd S (fun vs H Q E ⟨ds, h, Q', E', hl, l, _⟩ => by rw [l.length]; exact hl) fun outer s H vs Q E hq => ?_
    obtain ⟨ds, h, Q', E', hl, l, r, q, fin, fx⟩ := hq
    refine ⟨_, hb _ (some (H, h)) (wkX E') cdv outer s H E rfl (hr.deeper _) (Takes.imp (takes_of rfl rfl rfl rfl) fun c d σ H' ⟨_, _, z⟩ => fx c d H' (lX_wk z)), ?_⟩
    exact ⟨startD N.length ds, h, _, Gr.refl, er_start l, r, q, fun σ' H' env' h' k' er' r' q2 => fin _ H' .non h' k' r' (by unfold Rp; rfl) q2, fun v H' d h' k' r' p' q2 => fin v H' d h' k' r' p' q2, fun _ _ _ _ _ _ _ z => z.elim, fun _ _ _ _ _ _ _ z => z.elim⟩
  refine RunOk.imp (run_seal F0) fun vs H Q E ⟨ds, h, Q', E', hl, l, r, q, fin, fx⟩ => ⟨ds, h, wk Q', E', hl, l, r, q, fun v H' d h' k' r' p' ⟨d2, h2, sl, q2⟩ hp ho => ?_, fx⟩
  obtain ⟨H2, g, k2, r2, p2⟩ := sl.fin r' p' ho
  exact ⟨H2, g, fin v H2 d2 h2 (k'.trans k2) r2 p2 q2⟩
/-- what stands of the names of such a def -/
def TabR (P : Program) (w : World) (K : PySem.W.Frag) (mg : Str → Option Value) (base : Heap) (k : Nat) (tab : List (Str × GK)) : Prop := ∀ p ∈ tab, GS P w K mg base k p.1 p.2 ∨ (p.1 = "repr" ∧ p.2 = .rep ∧ mg "repr" = none)
theorem tabR_nil {k : Nat} : TabR P w K mg base k [] := fun _ h => by cases h
theorem tabR_cons {k : Nat} {x : Str} {g : GK} {tab : List (Str × GK)} (a : GS P w K mg base k x g) (b : TabR P w K mg base k tab) : TabR P w K mg base k ((x, g) :: tab) := fun p h => by
  rcases List.mem_cons.mp h with z | z
  · subst z; exact .inl a
  · exact b p z
theorem tabR_rep {k : Nat} {tab : List (Str × GK)} (a : mg "repr" = none) (b : TabR P w K mg base k tab) : TabR P w K mg base k (("repr", .rep) :: tab) := fun p h => by
  rcases List.mem_cons.mp h with z | z
  · subst z; exact .inr ⟨rfl, rfl, a⟩
  · exact b p z
theorem run_c {x qual : Str} {st : Stmt} {f : Addr} {fd : FuncData} {N ps : List Str} {k : Nat} {tab : List (Str × GK)} {cls : List Str} {B : DXE → DTS} {SP : DSp} (hr : Room (k + 1) A) (hgd : A.guards = some []) (F : Fun K x qual st f fd) (S : FnScope N ps (defScope st)) (T : TabR P w K mg base k tab) (XC : ClsOk K cls)
    (hc : ∀ E, cSs ⟨N, defScope st, fun _ => true, tab, cls, true⟩ E 60 (defBody st) = some (B E)) (hp : ∀ ds h Q E, SP ds h Q E → dFn N.length B ds h Q E) : RunOk P w K mg base (L2.CX P w) A f fd ps (lSp K mg ps.length SP) := by
  refine RunOk.imp (run_ok (body := B) hr F S fun X G E' cdv outer s H E hX hr tk => ?_) (lSp_imp hp)
  refine (sndS 60).ss ⟨N, defScope st, fun _ => true, tab, cls, true⟩ (fun _ => E') X G ?_ _ _ (hc fun _ => E')
  have un := hr.un
  subst hX
  refine { N := rfl, sc := rfl, fn := rfl, nd := S.nd, kind := S.kind, calm := fun _ => rfl, hu := by omega, pass := fun σ => passAt tk σ, xcls := XC, own := passes_of rfl, tk := tk, stk := rfl, frm := rfl, glob := fun p hp => ?_ }
  obtain ⟨y, g⟩ := p
  rcases T _ hp with z | ⟨rfl, e, z⟩
  · cases g with
    | fn n S =>
      obtain ⟨j, f, fd, ps, hj, a, b, c, d⟩ := z
      exact ⟨j, f, fd, ps, hr.mono hj, a, b, c, d⟩
    | xc how =>
      cases how with
      | none => exact z
      | some o =>
        cases o with
        | none =>
          obtain ⟨a, b, c, d, e, f⟩ := z
          exact ⟨a, b, c, d, raises_own e f⟩
        | some f =>
          obtain ⟨a, b, c, d⟩ := z
          exact ⟨a, b, hr.mono c, d⟩
    | rep => exact z.elim
    | mth cn n S =>
      obtain ⟨m, em, j, f, fd, ps, hj, a, b, c, d, e⟩ := z
      exact ⟨m, em, j, f, fd, ps, hr.mono hj, a, b, c, d, e⟩
    | mkr n S =>
      obtain ⟨j, f, fd, ps, hj, a, b, c, d⟩ := z
      exact ⟨j, f, fd, ps, hr.mono hj, a, b, c, d⟩
    | _ => exact z
  · have e : g = .rep := e
    subst e
    exact ⟨rfl, z, hgd, by omega⟩
end
/-- the end of a law that asks repr -/
theorem walk_ofR {l : PySem.W.OpenLaw} {n : Nat} {q : Program} {loose : List Str} {XP : (Str → Option Value) → Heap → Prop} {YP : World → Heap → Prop} {d : DefRec} {x : Str} {SP : DSp}
    (hn : l.most = some n) (hn2 : n ≤ sizeLine) (hdf : d.params.defaults = [])
    (F : ∀ (w : World) (mg : Str → Option Value) (fa : Addr) (h : Heap), YP w h → h.Ns mainGlobals mg → mg d.name = some (.ref fa) →
      ∃ (K : PySem.W.Frag) (fd : FuncData), K.In h ∧ (∀ (s : Shared) (u : Value), BindsTo s fd ⟨[u], []⟩ [(x, u)]) ∧ ∀ base : Heap, K.In base → base.Ns mainGlobals mg → RunOk l.prog w K mg base (L2.CX l.prog w) callerA fa fd [x] (lSp K mg 1 SP))
    (law : ∀ ns : List Int, ns.length ≤ n → SP [.scr (ns.map .int)] (fun _ => none) (fun d _ => d = .bl true) fun _ _ _ => False) :
    PySem.W.WalkO q loose XP YP l.row.toRowW d [] (fun f vs => PySem.call f vs) := by
  refine Att.attach_call hn hdf fun w s₀ s₁ mg mb fa o pm cd doc a vs ns G Y ho hd hcd hmg hobj hints hlen hg => ?_
  obtain ⟨K, fd, KX, hb, hF⟩ := F w mg fa _ Y G.T.g hmg
  refine law_callR KX G.T.g G.T.b G.T.builtins G.T.nolimit hg hobj hints (Nat.le_trans hlen hn2) hF hb (fun H hO hS => ?_) fun H e s' z => ?_
  · refine ⟨[.scr (ns.map .int)], fun _ => none, _, _, rfl, RpL.cons ?_ RpL.nil, (fun a o e => by cases e), law ns hlen, fun v H' d h' _ _ p q => ?_, fun c dx H' z => ?_⟩
    · unfold Rp
      refine ⟨a, ns.map V.int, rfl, ?_, ?_⟩
      · rcases hS with (hS | hS) | hS
        · rcases hO a with z | ⟨o, xs, z⟩
          · rw [z] at hS; cases hS
          · rw [z] at hS; cases hS
        · exact .inl hS
        · exact .inr hS
      · clear hlen hints hS
        induction ns with
        | nil => exact RpL.nil
        | cons i r ih => exact RpL.cons (by unfold Rp; rfl) ih
    · subst q
      unfold Rp at p
      exact p
    · obtain ⟨_, _, _, _, _, _, _, _, _, z⟩ := z
      exact z
  · obtain ⟨_, _, _, _, _, _, _, _, _, _, _, _, z⟩ := z
    exact z
end DL
set_option Elab.async false
set_option linter.all false
set_option maxRecDepth 100000
set_option maxHeartbeats 4000000
namespace DL
open PySem PySem.Spec PySem.Calls PyProof.Rows L2
/-! ### the head's facts told in parts, over addresses that are given -/
def obsZ (al : List Addr) (fa : List He.Fa) (fn : List He.DefD) (ex : PySem.W.Frag → Bool) (ts : List He.Tab) (g : Addr → Option Obj) : AlY := obsY fa fn ex ts (He.frG g al)
def hookZ (al : List Addr) (fa : List He.Fa) (fn : List He.DefD) (ex : PySem.W.Frag → Bool) (ts : List He.Tab) : PySem.W.Hook where
  α := AlY
  obs := fun s => obsZ al fa fn ex ts s.heap.get?
  val := fun w => ((He.valD fn, true), tabsW ts w)
  says := fun w h => ∃ K : PySem.W.Frag, K.In h ∧ He.SaysD fa fn K ∧ ex K = true ∧ tabsK ts K = tabsW ts w
  of := fun _ _ e => ⟨_, He.frG_in, congrArg (fun z : AlY => z.1.1) e, congrArg (fun z : AlY => z.1.2) e, congrArg (fun z : AlY => z.2) e⟩
  keeps := fun _ _ _ ⟨K, hK, c, d, f⟩ k => ⟨K, PySem.W.Frag.In.keeps hK k, c, d, f⟩
theorem obsZ_eq {al : List Addr} {fa : List He.Fa} {fn : List He.DefD} {ex : PySem.W.Frag → Bool} {ts : List He.Tab} {g : Addr → Option Obj} {s : Shared} (h : ∀ a, g a = s.heap.get? a) : obsZ al fa fn ex ts g = (hookZ al fa fn ex ts).obs s := by
  have e : g = s.heap.get? := funext h
  rw [e] <;> rfl
noncomputable def endR (r : PySem.W.OpenRow) (M : Nat) (w : World) (os : OsState) : Option PySem.W.SharedT := HandSHeadRun.endF (HandSHeadRun.stepQ (HandSHeadRun.denQ HandSHeadRun.tabQ) r.prog w) M r.prog w os
noncomputable def frT (al : List Addr) (s : PySem.W.SharedT) : PySem.W.Frag := He.frG (HandSHeadRun.getT s) al
def RunPart (r : PySem.W.OpenRow) (al : List Addr) (M : Nat) (fa : List He.Fa) (fn : List He.DefD) (w : World) : Prop := ∀ os : OsState, (endR r M w os).map (fun s => He.obsD fa fn (frT al s)) = some (He.valD fn)
def RunRest (r : PySem.W.OpenRow) (q : Program) (al : List Addr) (ex : PySem.W.Frag → Bool) (ts : List He.Tab) (M : Nat) (loose : List PySem.Str) (w : World) : Prop := ∀ os : OsState, (endR r M w os).map (fun s => ((HandSHeadRun.looksF r.prog (PySem.W.boot_heap w.params) s.abs, HandSHeadRun.seenQ q loose (importedModules r.prog.main.body) (fun s => PySem.W.xlAt q [] s && PySem.W.recOk r.toRowW.records s) s.abs), (ex (frT al s), tabsK ts (frT al s)))) = some ((true, PySem.W.openGood q loose), (true, tabsW ts w))
theorem RunPart.app {r : PySem.W.OpenRow} {al : List Addr} {M : Nat} {fa fa2 : List He.Fa} {fn fn2 : List He.DefD} {w : World} (h1 : RunPart r al M fa fn w) (h2 : RunPart r al M fa2 fn2 w) : RunPart r al M (fa ++ fa2) (fn ++ fn2) w := fun os => by
  obtain ⟨s, e, v1⟩ := Option.map_eq_some_iff.mp (h1 os)
  have z := h2 os
  rw [e] at z
  have v1 : He.obsD fa fn (frT al s) = He.valD fn := v1
  have v2 : He.obsD fa2 fn2 (frT al s) = He.valD fn2 := Option.some.inj z
  rw [e]
  show some (He.obsD (fa ++ fa2) (fn ++ fn2) (frT al s)) = some (He.valD (fn ++ fn2))
  congr 1
  unfold He.obsD He.valD at *
  obtain ⟨a1, a2⟩ := Prod.mk.inj v1
  obtain ⟨b1, b2⟩ := Prod.mk.inj v2
  obtain ⟨a1, a3⟩ := He.ba a1
  obtain ⟨b1, b3⟩ := He.ba b1
  rw [List.all_append, List.all_append, List.map_append, List.map_append, a1, a2, a3, b1, b2, b3]
  rfl
theorem RunPart.cut {r : PySem.W.OpenRow} {al : List Addr} {M : Nat} {fa : List He.Fa} {fn : List He.DefD} {w : World} (k j : Nat) (h1 : RunPart r al M (fa.take k) (fn.take j) w) (h2 : RunPart r al M (fa.drop k) (fn.drop j) w) : RunPart r al M fa fn w := by
  have z := h1.app h2
  rwa [List.take_append_drop, List.take_append_drop] at z
theorem run_join {r : PySem.W.OpenRow} {q : Program} {al : List Addr} {ex : PySem.W.Frag → Bool} {ts : List He.Tab} {M : Nat} {loose : List PySem.Str} {fa : List He.Fa} {fn : List He.DefD} {w : World} (h0 : RunRest r q al ex ts M loose w) (h1 : RunPart r al M fa fn w) :
    HandSHeadRun.RunEq r q (hookZ al fa fn ex ts) (fun s => obsZ al fa fn ex ts (HandSHeadRun.getT s)) M loose w := fun os => by
  obtain ⟨s, e, v0⟩ := Option.map_eq_some_iff.mp (h0 os)
  have z := h1 os
  rw [e] at z
  have v1 : He.obsD fa fn (frT al s) = He.valD fn := Option.some.inj z
  obtain ⟨a, b⟩ := Prod.mk.inj v0
  obtain ⟨a1, a2⟩ := Prod.mk.inj a
  obtain ⟨b1, b2⟩ := Prod.mk.inj b
  have e : HandSHeadRun.endF (HandSHeadRun.stepQ (HandSHeadRun.denQ HandSHeadRun.tabQ) r.prog w) M r.prog w os = some s := e
  rw [e]
  show some _ = some _
  have k : obsZ al fa fn ex ts (HandSHeadRun.getT s) = ((He.valD fn, true), tabsW ts w) := by
    show ((He.obsD fa fn (frT al s), ex (frT al s)), tabsK ts (frT al s)) = _
    rw [v1, b1, b2]
  show some (_, _, obsZ al fa fn ex ts (HandSHeadRun.getT s)) = some (true, _, ((He.valD fn, true), tabsW ts w))
  rw [a1, a2, k]
end DL
set_option Elab.async false
set_option linter.all false
set_option maxRecDepth 100000
set_option maxHeartbeats 4000000
namespace DL
open PySem PySem.Spec PyProof.Rows L2
/-! ### rows that evaluate readings -/
theorem iteB_t {A B : Prop} : iteB true A B = A := rfl
theorem iteB_f {A B : Prop} : iteB false A B = B := rfl
theorem iteB_self {b : Bool} {A : Prop} (a : A) : iteB b A A := by cases b <;> exact a
theorem iteB_and {b : Bool} {A B : Prop} : iteB b A B ↔ ((b = true → A) ∧ (b = false → B)) := by cases b <;> simp [iteB]
theorem asB_bl {b : Bool} {k : Bool → Prop} : asB (.bl b) k = k b := rfl
theorem asI_int {i : Int} {k : Int → Prop} : asI (.int i) k = k i := rfl
theorem optAt_some {α : Type} {a : α} {k : α → Prop} : optAt (some a) k = k a := rfl
theorem lstAt_some {ds : List D} {k : List D → Prop} : lstAt (some (.lst ds)) k = k ds := rfl
theorem dVar_of {i : Nat} {env : DEnv} {h : DH} {Q : DK} {d : D} (e : env[i]? = some (some d)) (q : Q d h) : dVar i env h Q := by unfold dVar; rw [e]; exact q
section
variable {h : DH} {Q : DK} {ds es : List D} {i j : Int} {x y : Str} {a b : Addr} {k : List D → (DH → Prop) → Prop} {k1 : List D → Prop} {c e : Bool} {neg : Bool}
theorem asIt_tup : asItE (.tup ds) h k = k ds fun _ => True := rfl
theorem asIt_frz : asItE (.frz ds) h k = k ds fun _ => True := rfl
theorem asIt_str : asItE (.str x) h k = k (signs x) fun _ => True := rfl
theorem asIt_ref : asItE (.ref a) h k = dctAt (h a) (fun ep kvs => k (keysN kvs) fun h' => h' a = some (.dN ep kvs)) (fun _ => False) (lstAt (h a) fun ds => k ds fun h' => h' a = some (.lst ds)) := rfl
theorem inE_frz {d : D} : rInE neg d (.frz es) h Q = rInD' neg d (.frz es) h Q := rfl
theorem inE_tup {d : D} : rInE neg d (.tup es) h Q = rInD' neg d (.tup es) h Q := rfl
theorem inE_str {d : D} : rInE neg d (.str x) h Q = rInD' neg d (.str x) h Q := rfl
theorem inE_ref {d : D} : rInE neg d (.ref a) h Q = dctAt (h a) (fun _ kvs => ∃ k, nkOf d = some k ∧ kOk k = true ∧ Q (.bl (xor neg (valD kvs k).isSome)) h) (fun kvs => ∃ k, keyOf d = some k ∧ Q (.bl (xor neg (valD kvs k).isSome)) h) (rInD' neg d (.ref a) h Q) := rfl
theorem lenE_tup : rLenE [.tup ds] h Q = Q (.int ds.length) h := rfl
theorem lenE_frz : rLenE [.frz ds] h Q = Q (.int ds.length) h := rfl
theorem lenE_str : rLenE [.str x] h Q = (x.length ≤ sizeLine ∧ Q (.int x.length) h) := rfl
theorem lenE_ref : rLenE [.ref a] h Q = dctAt (h a) (fun _ kvs => Q (.int kvs.length) h) (fun kvs => Q (.int kvs.length) h) (lstAt (h a) fun ds => Q (.int ds.length) h) := rfl
section
variable {A : Addr → Nat → List (NestedKey × D) → Prop} {B : Addr → List (L2.Key × D) → Prop} {C : Prop} {A1 : Nat → List (NestedKey × D) → Prop} {B1 : List (L2.Key × D) → Prop} {ep : Nat} {kn : List (NestedKey × D)} {kk : List (L2.Key × D)} {nm : Str} {fs : List (Str × Int)} {ff : List (Str × D)}
theorem dct_non : dctOf .non h A B C = C := rfl
theorem dct_bl : dctOf (.bl c) h A B C = C := rfl
theorem dct_int : dctOf (.int i) h A B C = C := rfl
theorem dct_str : dctOf (.str x) h A B C = C := rfl
theorem dct_tup : dctOf (.tup ds) h A B C = C := rfl
theorem dct_frz : dctOf (.frz ds) h A B C = C := rfl
theorem dct_scr : dctOf (.scr ds) h A B C = C := rfl
theorem dct_exc : dctOf (.exc nm fs) h A B C = C := rfl
theorem dct_ref : dctOf (.ref a) h A B C = dctAt (h a) (A a) (B a) C := rfl
theorem dctAt_lst : dctAt (some (.lst ds)) A1 B1 C = C := rfl
theorem dctAt_ins : dctAt (some (.ins x ff)) A1 B1 C = C := rfl
theorem dctAt_dN : dctAt (some (.dN ep kn)) A1 B1 C = A1 ep kn := rfl
theorem dctAt_dK : dctAt (some (.dK kk)) A1 B1 C = B1 kk := rfl
theorem keyOf_int : keyOf (.int i) = some (.inl i) := rfl
theorem keyOf_str : keyOf (.str x) = some (.inr x) := rfl
end
theorem asLs_frz : asLs (.frz ds) h k = k ds fun _ => True := rfl
theorem asLs_ref : asLs (.ref a) h k = lstAt (h a) fun ds => k ds fun h' => h' a = some (.lst ds) := rfl
theorem zip_tup : zipOf (.tup ds) (.tup es) h k = k (zipD ds es) fun _ => True := rfl
theorem zip_ff : zipOf (.frz ds) (.frz es) h k = k (zipD ds es) fun _ => True ∧ True := rfl
theorem zip_tf : zipOf (.tup ds) (.frz es) h k = k (zipD ds es) fun _ => True ∧ True := rfl
theorem zip_ft : zipOf (.frz ds) (.tup es) h k = k (zipD ds es) fun _ => True ∧ True := rfl
theorem zip_ref : zipOf (.ref a) (.ref b) h k = lstAt (h a) fun xs => lstAt (h b) fun ys => k (zipD xs ys) fun h' => h' a = some (.lst xs) ∧ h' b = some (.lst ys) := rfl
theorem asSq_tup : asSq (.tup ds) h k1 = k1 ds := rfl
theorem asSq_frz : asSq (.frz ds) h k1 = k1 ds := rfl
theorem asSq_ref : asSq (.ref a) h k1 = lstAt (h a) k1 := rfl
theorem refI_ref {k : Addr → Prop} : refI (.ref a) k = k a := rfl
theorem insAt_ins {c : Str} {fs : List (Str × D)} {k : Str → List (Str × D) → Prop} : insAt (some (.ins c fs)) k = k c fs := rfl
theorem asTp_tup {k : List D → Prop} : asTp (.tup ds) k = k ds := rfl
theorem asL_ref : asL (.ref a) h k1 = lstAt (h a) k1 := rfl
theorem asLl_ref : asLl (.ref a) h k1 = lstAt (h a) k1 := rfl
theorem asLl_frz : asLl (.frz ds) h k1 = k1 ds := rfl
theorem len_tup : lenOf (.tup ds) h Q = Q (.int ds.length) h := rfl
theorem len_frz : lenOf (.frz ds) h Q = Q (.int ds.length) h := rfl
theorem len_ref : lenOf (.ref a) h Q = lstAt (h a) fun ds => Q (.int ds.length) h := rfl
theorem len_str : lenOf (.str x) h Q = (x.length ≤ sizeLine ∧ Q (.int x.length) h) := rfl
theorem add_int : rAddD (.int i) (.int j) h Q = Q (.int (i + j)) h := rfl
theorem add_str : rAddD (.str x) (.str y) h Q = (x.length + y.length ≤ sizeLine ∧ Q (.str (x ++ y)) h) := rfl
theorem add_tup : rAddD (.tup ds) (.tup es) h Q = (ds.length + es.length ≤ sizeLine ∧ Q (.tup (ds ++ es)) h) := rfl
theorem add_ref : rAddD (.ref a) (.ref b) h Q = lstAt (h a) fun xs => lstAt (h b) fun ys => xs.length + ys.length ≤ sizeLine ∧ Q (.frz (xs ++ ys)) h := rfl
theorem add_frz : rAddD (.frz ds) (.frz es) h Q = (ds.length + es.length ≤ sizeLine ∧ Q (.frz (ds ++ es)) h) := rfl
theorem add_fr : rAddD (.frz ds) (.ref b) h Q = lstAt (h b) fun ys => ds.length + ys.length ≤ sizeLine ∧ Q (.frz (ds ++ ys)) h := rfl
theorem add_rf : rAddD (.ref a) (.frz es) h Q = lstAt (h a) fun xs => xs.length + es.length ≤ sizeLine ∧ Q (.frz (xs ++ es)) h := rfl
theorem mul_int : rMulD (.int i) (.int j) h Q = (CMulW i j ∧ Q (.int (i * j)) h) := rfl
theorem mul_str : rMulD (.str x) (.int j) h Q = (MulOk x j ∧ Q (.str (Txt.mul x j)) h) := rfl
theorem mul_tup : rMulD (.tup ds) (.int j) h Q = ((ds ≠ [] ∧ 1 ≤ j ∧ j ≤ 1000 ∧ ds.length ≤ 1000) ∧ Q (.tup (List.replicate j.toNat ds).flatten) h) := rfl
theorem mul_ref : rMulD (.ref a) (.int j) h Q = lstAt (h a) fun xs => (-(2 ^ 63) ≤ j ∧ j < 2 ^ 63 ∧ xs.length * j.toNat ≤ sizeLine) ∧ Q (.frz (List.replicate j.toNat xs).flatten) h := rfl
theorem mul_frz : rMulD (.frz ds) (.int j) h Q = ((-(2 ^ 63) ≤ j ∧ j < 2 ^ 63 ∧ ds.length * j.toNat ≤ sizeLine) ∧ Q (.frz (List.replicate j.toNat ds).flatten) h) := rfl
theorem ix_tup : rIxE (.tup ds) (.int i) h Q = optAt (atI ds i) fun d => Q d h := rfl
theorem ix_frz : rIxE (.frz ds) (.int i) h Q = optAt (atI ds i) fun d => Q d h := rfl
theorem ix_ref {d : D} : rIxE (.ref a) d h Q = dctAt (h a) (fun _ kvs => ∃ k, nkOf d = some k ∧ kOk k = true ∧ optAt (valD kvs k) fun v => Q v h) (fun kvs => ∃ k, keyOf d = some k ∧ optAt (valD kvs k) fun v => Q v h) (rIxD' (.ref a) d h Q) := rfl
theorem ix_refL : rIxD' (.ref a) (.int i) h Q = lstAt (h a) fun ds => optAt (atI ds i) fun d => Q d h := rfl
theorem ix_str : rIxE (.str x) (.int i) h Q = (x.length ≤ sizeLine ∧ optAt (atI x.cps.toList i) fun c => Q (.str ⟨#[c]⟩) h) := rfl
theorem sl_tup {lo hi : Option Int} : rSlD (.tup ds) lo hi h Q = Q (.tup (cutD ds lo hi)) h := rfl
theorem sl_str {lo hi : Option Int} : rSlD (.str x) lo hi h Q = (x.length ≤ sizeLine ∧ Q (.str (cutS x lo hi)) h) := rfl
theorem sl_frz {lo hi : Option Int} : rSlD (.frz ds) lo hi h Q = Q (.frz (cutD ds lo hi)) h := rfl
theorem sl_scr {lo hi : Option Int} : rSlD (.scr ds) lo hi h Q = Q (.frz (cutD ds lo hi)) h := rfl
theorem sl_ref {lo hi : Option Int} : rSlD (.ref a) lo hi h Q = lstAt (h a) fun ds => Q (.frz (cutD ds lo hi)) h := rfl
theorem rev_tup : rRevA (.tup ds) h Q = Q (.tup ds.reverse) h := rfl
theorem rev_ref : rRevA (.ref a) h Q = lstAt (h a) fun ds => Q (.frz ds.reverse) h := rfl
theorem two2_tup {v w : D} {k : D → D → Prop} : two2 (.tup [v, w]) k = k v w := rfl
theorem asEn_tup {k : List D → (DH → Prop) → Prop} : asEn (.tup ds) h k = k ds fun _ => True := rfl
theorem asEn_frz {k : List D → (DH → Prop) → Prop} : asEn (.frz ds) h k = k ds fun _ => True := rfl
theorem asEn_ref {k : List D → (DH → Prop) → Prop} : asEn (.ref a) h k = lstAt (h a) fun ds => k ds fun h' => h' a = some (.lst ds) := rfl
theorem rev_frz : rRevA (.frz ds) h Q = Q (.frz ds.reverse) h := rfl
theorem eq_ii : rEqD' false (.int i) (.int j) h Q = Q (.bl (decide (i = j))) h := by unfold rEqD'; simp [scalD, sameS, iteB]
theorem ne_ii : rEqD' true (.int i) (.int j) h Q = Q (.bl (!decide (i = j))) h := by unfold rEqD'; simp [scalD, sameS, iteB]
theorem eq_ss : rEqD' false (.str x) (.str y) h Q = Q (.bl (decide (x = y))) h := by unfold rEqD'; simp [scalD, sameS, iteB]
theorem ne_ss : rEqD' true (.str x) (.str y) h Q = Q (.bl (!decide (x = y))) h := by unfold rEqD'; simp [scalD, sameS, iteB]
theorem eq_bb : rEqD' false (.bl c) (.bl e) h Q = Q (.bl (decide (c = e))) h := by unfold rEqD'; simp [scalD, sameS, iteB]
theorem ne_bb : rEqD' true (.bl c) (.bl e) h Q = Q (.bl (!decide (c = e))) h := by unfold rEqD'; simp [scalD, sameS, iteB]
theorem is_bb : rIsD false (.bl c) (.bl e) h Q = Q (.bl (decide (c = e))) h := by simp [rIsD]
theorem isnt_bb : rIsD true (.bl c) (.bl e) h Q = Q (.bl (!decide (c = e))) h := by simp [rIsD]
theorem is_n {d : D} : rIsD false d .non h Q = Q (.bl (isNon d)) h := by cases d <;> simp [rIsD]
theorem isnt_n {d : D} : rIsD true d .non h Q = Q (.bl (!isNon d)) h := by cases d <;> simp [rIsD]
theorem set_refE {d e : D} {K : DH → Prop} : rSetIxE (.ref a) d e h K = dctAt (h a) (fun _ kvs => ∃ k, nkOf d = some k ∧ kOk k = true ∧ kvs.length < sizeLine ∧ ∀ ep, K (up h a (.dN ep (putE kvs k e)))) (fun kvs => ∃ k, keyOf d = some k ∧ kvs.length < sizeLine ∧ K (up h a (.dK (putE kvs k e)))) (rSetIx (.ref a) d e h K) := rfl
theorem set_ref {d : D} {K : DH → Prop} : rSetIx (.ref a) (.int i) d h K = lstAt (h a) fun ds => ∃ j, ixN ds.length i = some j ∧ K (up h a (.lst (ds.set j d))) := rfl
theorem tg_name {n : Nat} {d : D} {env : DEnv} {K : DEnv → Prop} : dTg (.name n) d env K = K (env.set n (some d)) := rfl
theorem tg_tup {is : List Nat} {env : DEnv} {K : DEnv → Prop} : dTg (.tup is) (.tup ds) env K = (ds.length = is.length ∧ K (setsD is ds env)) := rfl
theorem oneD_one {d : D} {K : D → Prop} : oneD [d] K = K d := rfl
theorem twoD_two {d e : D} {K : D → D → Prop} : twoD [d, e] K = K d e := rfl
theorem isX_exc {l : List Str} {cn nm : Str} {fs : List (Str × Int)} : isiX l cn (.exc nm fs) h Q = (l.contains nm = true ∧ Q (.bl (subC nm cn)) h) := rfl
theorem isX_non {l : List Str} {cn : Str} : isiX l cn .non h Q = Q (.bl false) h := rfl
theorem isX2_exc {l : List Str} {cn cm nm : Str} {fs : List (Str × Int)} {h : DH} {Q : DK} : isiX2 l cn cm (.exc nm fs) h Q = (l.contains nm = true ∧ Q (.bl (subC nm cn || subC nm cm)) h) := rfl
theorem isX2_non {l : List Str} {cn cm : Str} {h : DH} {Q : DK} : isiX2 l cn cm .non h Q = Q (.bl false) h := rfl
theorem fldX_exc {l : List Str} {f nm : Str} {fs : List (Str × Int)} : fldX l f (.exc nm fs) h Q = (l.contains nm = true ∧ optAt (fs.lookup f) fun i => Q (.int i) h) := rfl
theorem asS_str {k2 : Str → Prop} : asS (.str x) k2 = k2 x := rfl
theorem intOf_int : intOf (.int i) h Q = Q (.int i) h := rfl
theorem intOf_bl : intOf (.bl c) h Q = Q (.int (if c then 1 else 0)) h := rfl
theorem intOf_str : intOf (.str x) h Q = (∃ n, PySem.intText? x = some n ∧ x.length ≤ 640 ∧ Q (.int n) h) := rfl
theorem strOf_int : strOf (.int i) h Q = (i.natAbs.log2 < 1920 ∧ Q (.str (toString i)) h) := rfl
theorem strOf_str : strOf (.str x) h Q = Q (.str x) h := rfl
theorem strOf_tup : strOf (.tup ds) h Q = ((ds.length ≤ 10 ∧ ds.all flatB = true) ∧ ∀ m : Str, Q (.str m) h) := rfl
theorem threeD_three {d1 d2 d3 : D} {K : D → D → D → Prop} : threeD [d1, d2, d3] K = K d1 d2 d3 := rfl
theorem isNon_exc {nm : Str} {fs : List (Str × Int)} : isNon (.exc nm fs) = false := rfl
theorem all_map {f : D → Bool} (q : Q (.bl (ds.all f)) h) : rAllD (ds.map fun x => .bl (f x)) h Q := ⟨ds.map f, by simp, by rw [List.all_map]; exact q⟩
theorem any_map {f : D → Bool} (q : Q (.bl (ds.any f)) h) : rAnyD (ds.map fun x => .bl (f x)) h Q := ⟨ds.map f, by simp, by rw [List.any_map]; exact q⟩
theorem sum_map {f : D → Int} (q : Q (.int (ds.map f).sum) h) : rSumD (ds.map fun x => .int (f x)) h Q := ⟨ds.map f, by simp, q⟩
end
/-- a function's end: nothing need be forgotten -/
theorem wk_of {Q : DK} {d : D} {h : DH} (q : Q d h) : wk Q d h := ⟨d, h, ⟨fun _ => False, fun _ _ e => ⟨e, fun z => z⟩, .keep d⟩, q⟩
theorem wk_sub {Q : DK} {d : D} {h h' : DH} (s : ∀ a o, h' a = some o → h a = some o) (q : Q d h') : wk Q d h := ⟨d, h', ⟨fun _ => False, fun a o e => ⟨s a o e, fun z => z⟩, .keep d⟩, q⟩
/-- a told list becomes a value -/
theorem wk_lst {Q : DK} {a : Addr} {ds : List D} {h h' : DH} (e : h a = some (.lst ds)) (n : h' a = none) (s : ∀ a o, h' a = some o → h a = some o) (q : Q (.frz ds) h') : wk Q (.ref a) h :=
  ⟨.frz ds, h', ⟨fun b => b = a, fun b o e2 => ⟨s b o e2, fun z => by subst z; rw [n] at e2; cases e2⟩, .lst rfl e (SlL.keep ds)⟩, q⟩
theorem wkX_of {E : DX} {x : Str} {fs : List (Str × Int)} {h : DH} (q : E x fs h) : wkX E x fs h := ⟨h, fun _ _ e => e, q⟩
theorem wkX_sub {E : DX} {x : Str} {fs : List (Str × Int)} {h h' : DH} (s : ∀ a o, h' a = some o → h a = some o) (q : E x fs h') : wkX E x fs h := ⟨h', s, q⟩
/-- loops by what holds ahead of the rest -/
theorem loop_inv {g : Tgt} {b : DTS} {chk : DH → Prop} {E : DEnds} (I : List D → DEnv → DH → Prop)
    (step : ∀ x r (K : DEnv → DH → Prop), (∀ env h, I r env h → K env h) → ∀ env h, I (x :: r) env h → chk h ∧ dTg g x env fun env' => b ⟨K, E.rt, E.nx, K⟩ env' h)
    (fin : ∀ env h, I [] env h → chk h ∧ E.nx env h) : ∀ (items : List D) (env : DEnv) (h : DH), I items env h → dLoop g b chk E items env h
  | [], env, h, i => fin env h i
  | x :: r, env, h, i => step x r (dLoop g b chk E r) (fun env h i => loop_inv I step fin r env h i) env h i
theorem comp_inv {g : Tgt} {own : List Nat} {tt : DTT} {te : DTE} {chk : DH → Prop} {env : DEnv} {Q : List D → DH → Prop} (I : List D → List D → DH → Prop)
    (step : ∀ x r (K : List D → DH → Prop), (∀ acc h, I r acc h → K acc h) → ∀ acc h, I (x :: r) acc h → chk h ∧ dTg g x (wipeD env own) fun env' => tt env' h fun b h1 => iteB b (te env' h1 fun y h2 => acc.length < sizeLine ∧ K (acc ++ [y]) h2) (K acc h1))
    (fin : ∀ acc h, I [] acc h → chk h ∧ Q acc h) : ∀ (items acc : List D) (h : DH), I items acc h → dComp g own tt te chk env Q items acc h
  | [], acc, h, i => fin acc h i
  | x :: r, acc, h, i => step x r (dComp g own tt te chk env Q r) (fun acc h i => comp_inv I step fin r acc h i) acc h i
/-- a comprehension of values -/
theorem comp_map {g : Tgt} {own : List Nat} {te : DTE} {chk : DH → Prop} {env : DEnv} {Q : List D → DH → Prop} {h : DH} {items : List D} (f : D → D) (hc : chk h) (hl : items.length ≤ sizeLine)
    (he : ∀ x ∈ items, ∀ K : DK, K (f x) h → dTg g x (wipeD env own) fun env' => te env' h K) (q : Q (items.map f) h) : dComp g own dYes te chk env Q items [] h := by
  refine comp_inv (fun r acc h' => h' = h ∧ acc ++ r.map f = items.map f ∧ ∀ x ∈ r, x ∈ items) (fun x r K hK acc h' hi => ?_) (fun acc h' hi => ?_) items [] h ⟨rfl, by simp, fun _ z => z⟩
  · obtain ⟨rfl, e, hm⟩ := hi
    refine ⟨hc, ?_⟩
    have hx := he x (hm x (List.mem_cons_self ..)) (fun y h2 => acc.length < sizeLine ∧ K (acc ++ [y]) h2) ⟨?_, hK _ _ ⟨rfl, by rw [← e]; simp, fun z hz => hm z (List.mem_cons_of_mem _ hz)⟩⟩
    · exact hx
    · have := congrArg List.length e
      simp at this
      omega
  · obtain ⟨rfl, e, _⟩ := hi
    refine ⟨hc, ?_⟩
    rw [List.map_nil, List.append_nil] at e
    rw [e]; exact q
/-- .. with a test -/
theorem comp_filter {g : Tgt} {own : List Nat} {tt : DTT} {te : DTE} {chk : DH → Prop} {env : DEnv} {Q : List D → DH → Prop} {h : DH} {items : List D} (p : D → Bool) (f : D → D) (hc : chk h) (hl : items.length ≤ sizeLine)
    (he : ∀ x ∈ items, ∀ (K : DK) (K2 : DH → Prop), (if p x = true then K (f x) h else K2 h) → dTg g x (wipeD env own) fun env' => tt env' h fun b h1 => iteB b (te env' h1 K) (K2 h1)) (q : Q ((items.filter p).map f) h) : dComp g own tt te chk env Q items [] h := by
  refine comp_inv (fun r acc h' => h' = h ∧ acc ++ (r.filter p).map f = (items.filter p).map f ∧ (∀ x ∈ r, x ∈ items) ∧ acc.length + r.length ≤ items.length) (fun x r K hK acc h' hi => ?_) (fun acc h' hi => ?_) items [] h ⟨rfl, by simp, fun _ z => z, by simp⟩
  · obtain ⟨rfl, e, hm, hn⟩ := hi
    refine ⟨hc, ?_⟩
    rw [List.length_cons] at hn
    refine he x (hm x (List.mem_cons_self ..)) (fun y h2 => acc.length < sizeLine ∧ K (acc ++ [y]) h2) (K acc) ?_
    cases hp : p x with
    | true =>
      rw [if_pos rfl]
      rw [List.filter_cons, if_pos hp] at e
      refine ⟨by omega, hK _ _ ⟨rfl, by rw [← e]; simp, fun z hz => hm z (List.mem_cons_of_mem _ hz), by rw [List.length_append, List.length_singleton]; omega⟩⟩
    | false =>
      rw [if_neg Bool.false_ne_true]
      rw [List.filter_cons, hp, if_neg Bool.false_ne_true] at e
      exact hK _ _ ⟨rfl, e, fun z hz => hm z (List.mem_cons_of_mem _ hz), by omega⟩
  · obtain ⟨rfl, e, _⟩ := hi
    refine ⟨hc, ?_⟩
    rw [List.filter_nil, List.map_nil, List.append_nil] at e
    rw [e]; exact q
/-! ### things: values -/
/-- a thing is made of numbers, truths, None, texts, tuples and lists, at most n within one another -/
inductive Th : Nat → D → Prop
  | non {n : Nat} : Th n .non
  | bl {n : Nat} {b : Bool} : Th n (.bl b)
  | int {n : Nat} {i : Int} : Th n (.int i)
  | str {n : Nat} {x : Str} : PyData.strOk x = true → x.length ≤ 1000 + n → Th n (.str x)
  | tup {n : Nat} {ds : List D} : ds.length ≤ 1000 + n → (∀ x ∈ ds, Th n x) → Th (n + 1) (.tup ds)
  | frz {n : Nat} {ds : List D} : ds.length ≤ 1000 + n → (∀ x ∈ ds, Th n x) → Th (n + 1) (.frz ds)
theorem Th.mono {n : Nat} {d : D} (t : Th n d) : ∀ {m : Nat}, n ≤ m → Th m d := by
  induction t with
  | non => exact fun _ => .non
  | bl => exact fun _ => .bl
  | int => exact fun _ => .int
  | str s l => exact fun _ => .str s (by omega)
  | tup sz _ ih =>
    intro m hm
    cases m with
    | zero => omega
    | succ m => exact .tup (by omega) fun x hx => ih x hx (by omega)
  | frz sz _ ih =>
    intro m hm
    cases m with
    | zero => omega
    | succ m => exact .frz (by omega) fun x hx => ih x hx (by omega)
mutual
/-- what a value is, as plain data -/
def pd : D → PyData
  | .non => .none
  | .bl b => .bool b
  | .int i => .int i
  | .str x => .str x
  | .tup ds => .tuple (pds ds)
  | .frz ds => .list (pds ds)
  | _ => .none
def pds : List D → List PyData
  | [] => []
  | d :: ds => pd d :: pds ds
end
theorem pds_map (ds : List D) : pds ds = ds.map pd := by
  induction ds with
  | nil => simp [pds]
  | cons d ds ih => simp [pds, ih]
theorem canLayAll_of {ps : List PyData} (h : ∀ p ∈ ps, p.canLay0 = true) : PyData.canLayAll0 ps = true := by
  induction ps with
  | nil => simp [PyData.canLayAll0]
  | cons p ps ih =>
    simp only [PyData.canLayAll0, Bool.and_eq_true]
    exact ⟨h p (List.mem_cons_self ..), ih fun q hq => h q (List.mem_cons_of_mem _ hq)⟩
theorem depthAll_of {ps : List PyData} {n : Nat} (h : ∀ p ∈ ps, p.depth ≤ n) : PyData.depthAll ps ≤ n := by
  induction ps with
  | nil => simp [PyData.depthAll]
  | cons p ps ih =>
    simp only [PyData.depthAll]
    have a := h p (List.mem_cons_self ..)
    have b := ih fun q hq => h q (List.mem_cons_of_mem _ hq)
    omega
theorem DdL_of {h : DH} {n : Nat} : ∀ {ds : List D}, (∀ x ∈ ds, Dd h x (pd x) ∧ (pd x).canLay0 = true ∧ (pd x).depth ≤ n) → DdL h ds (pds ds) ∧ PyData.canLayAll0 (pds ds) = true ∧ PyData.depthAll (pds ds) ≤ n
  | [], _ => ⟨by simp only [pds]; exact .nil, by simp [pds, PyData.canLayAll0], by simp [pds, PyData.depthAll]⟩
  | d :: ds, hx => by
    obtain ⟨a, b, c⟩ := hx d (List.mem_cons_self ..)
    obtain ⟨a', b', c'⟩ := DdL_of (h := h) (n := n) fun x z => hx x (List.mem_cons_of_mem _ z)
    exact ⟨by simp only [pds]; exact .cons a a', by simp [pds, PyData.canLayAll0, b, b'], by simp only [pds, PyData.depthAll]; omega⟩
theorem Th.data {h : DH} {n : Nat} {d : D} (t : Th n d) : Dd h d (pd d) ∧ (pd d).canLay0 = true ∧ (pd d).depth ≤ n := by
  induction t with
  | non => exact ⟨by simp only [pd]; exact .non, by simp [pd, PyData.canLay0], by simp [pd, PyData.depth]⟩
  | bl => exact ⟨by simp only [pd]; exact .bl _, by simp [pd, PyData.canLay0], by simp [pd, PyData.depth]⟩
  | int => exact ⟨by simp only [pd]; exact .int _, by simp [pd, PyData.canLay0], by simp [pd, PyData.depth]⟩
  | str s l => exact ⟨by simp only [pd]; exact .str _, by simpa [pd, PyData.canLay0] using s, by simp [pd, PyData.depth]⟩
  | tup sz _ ih =>
    obtain ⟨a, b, c⟩ := DdL_of ih
    exact ⟨by simp only [pd]; exact .tup a, by simpa [pd, PyData.canLay0] using b, by simp only [pd, PyData.depth]; omega⟩
  | frz sz _ ih =>
    obtain ⟨a, b, c⟩ := DdL_of ih
    exact ⟨by simp only [pd]; exact .frz a, by simpa [pd, PyData.canLay0] using b, by simp only [pd, PyData.depth]; omega⟩
theorem Th.shaped {h : DH} {n : Nat} {d : D} (t : Th n d) (hn : n ≤ 64) : Dd h d (pd d) ∧ SeqAt.shaped (pd d) = true := by
  obtain ⟨a, b, c⟩ := t.data (h := h)
  exact ⟨a, by unfold SeqAt.shaped; rw [b, decide_eq_true (Nat.le_trans c hn)]; rfl⟩
/-- a thing -/
abbrev T (d : D) : Prop := Th 60 d
theorem T.tup {ds : List D} (t : T (.tup ds)) : ds.length ≤ sizeLine ∧ ∀ x ∈ ds, T x := by
  cases t with
  | tup sz m => exact ⟨Nat.le_trans sz (by decide), fun x hx => (m x hx).mono (by omega)⟩
theorem T.frz {ds : List D} (t : T (.frz ds)) : ds.length ≤ sizeLine ∧ ∀ x ∈ ds, T x := by
  cases t with
  | frz sz m => exact ⟨Nat.le_trans sz (by decide), fun x hx => (m x hx).mono (by omega)⟩
/-- its kind is known -/
def Kn : D → Prop
  | .ref _ => False
  | .exc _ _ => False
  | _ => True
theorem Th.kn {n : Nat} {d : D} (t : Th n d) : Kn d := by
  cases t <;> trivial
def isTup : D → Bool
  | .tup _ => true
  | _ => false
def isInt : D → Bool
  | .int _ => true
  | _ => false
def isBl : D → Bool
  | .bl _ => true
  | _ => false
def isStr : D → Bool
  | .str _ => true
  | _ => false
def isLst : D → Bool
  | .ref _ => true
  | .frz _ => true
  | .scr _ => true
  | _ => false
theorem isTup_non  : isTup .non = false := rfl
theorem isTup_bl {b : Bool} : isTup (.bl b) = false := rfl
theorem isTup_int {b : Int} : isTup (.int b) = false := rfl
theorem isTup_str {b : Str} : isTup (.str b) = false := rfl
theorem isTup_tup {b : List D} : isTup (.tup b) = true := rfl
theorem isTup_frz {b : List D} : isTup (.frz b) = false := rfl
theorem isTup_ref {b : Addr} : isTup (.ref b) = false := rfl
theorem isInt_non  : isInt .non = false := rfl
theorem isInt_bl {b : Bool} : isInt (.bl b) = false := rfl
theorem isInt_int {b : Int} : isInt (.int b) = true := rfl
theorem isInt_str {b : Str} : isInt (.str b) = false := rfl
theorem isInt_tup {b : List D} : isInt (.tup b) = false := rfl
theorem isInt_frz {b : List D} : isInt (.frz b) = false := rfl
theorem isInt_ref {b : Addr} : isInt (.ref b) = false := rfl
theorem isBl_non  : isBl .non = false := rfl
theorem isBl_bl {b : Bool} : isBl (.bl b) = true := rfl
theorem isBl_int {b : Int} : isBl (.int b) = false := rfl
theorem isBl_str {b : Str} : isBl (.str b) = false := rfl
theorem isBl_tup {b : List D} : isBl (.tup b) = false := rfl
theorem isBl_frz {b : List D} : isBl (.frz b) = false := rfl
theorem isBl_ref {b : Addr} : isBl (.ref b) = false := rfl
theorem isStr_non  : isStr .non = false := rfl
theorem isStr_bl {b : Bool} : isStr (.bl b) = false := rfl
theorem isStr_int {b : Int} : isStr (.int b) = false := rfl
theorem isStr_str {b : Str} : isStr (.str b) = true := rfl
theorem isStr_tup {b : List D} : isStr (.tup b) = false := rfl
theorem isStr_frz {b : List D} : isStr (.frz b) = false := rfl
theorem isStr_ref {b : Addr} : isStr (.ref b) = false := rfl
theorem isLst_non  : isLst .non = false := rfl
theorem isLst_bl {b : Bool} : isLst (.bl b) = false := rfl
theorem isLst_int {b : Int} : isLst (.int b) = false := rfl
theorem isLst_str {b : Str} : isLst (.str b) = false := rfl
theorem isLst_tup {b : List D} : isLst (.tup b) = false := rfl
theorem isLst_frz {b : List D} : isLst (.frz b) = true := rfl
theorem isLst_ref {b : Addr} : isLst (.ref b) = true := rfl
theorem isNon_non  : isNon .non = true := rfl
theorem isNon_bl {b : Bool} : isNon (.bl b) = false := rfl
theorem isNon_int {b : Int} : isNon (.int b) = false := rfl
theorem isNon_str {b : Str} : isNon (.str b) = false := rfl
theorem isNon_tup {b : List D} : isNon (.tup b) = false := rfl
theorem isNon_frz {b : List D} : isNon (.frz b) = false := rfl
theorem isNon_ref {b : Addr} : isNon (.ref b) = false := rfl
def tyS : D → String
  | .non => "NoneType" | .bl _ => "bool" | .int _ => "int" | .str _ => "str" | .tup _ => "tuple" | .frz _ => "list" | .scr _ => "list" | .ref _ => "list" | .exc _ _ => ""
theorem tyName_eq {h : DH} {d : D} {k : String → Prop} (t : Kn d) : tyName d h k = k (tyS d) := by
  cases d <;> first | exact t.elim | rfl
theorem ty_tuple {d : D} : isTy (tyS d) "tuple" = isTup d := by cases d <;> rfl
theorem ty_int {d : D} : isTy (tyS d) "int" = (isInt d || isBl d) := by cases d <;> rfl
theorem ty_bool {d : D} : isTy (tyS d) "bool" = isBl d := by cases d <;> rfl
theorem ty_str {d : D} : isTy (tyS d) "str" = isStr d := by cases d <;> rfl
theorem ty_list {d : D} : isTy (tyS d) "list" = isLst d := by cases d <;> rfl
theorem Kn.non : Kn .non := trivial
theorem Kn.bl {b : Bool} : Kn (.bl b) := trivial
theorem Kn.int {b : Int} : Kn (.int b) := trivial
theorem Kn.str {b : Str} : Kn (.str b) := trivial
theorem Kn.tup {b : List D} : Kn (.tup b) := trivial
theorem Kn.frz {b : List D} : Kn (.frz b) := trivial
section
variable {h : DH} {d : D} {Q : DK} {n : Nat}
theorem isi_tup (t : Kn d) : (tyName d h fun n => Q (.bl (isTy n "tuple")) h) = Q (.bl (isTup d)) h := by
  cases d <;> first | exact t.elim | rfl
theorem isi_int (t : Kn d) : (tyName d h fun n => Q (.bl (isTy n "int")) h) = Q (.bl (isInt d || isBl d)) h := by
  cases d <;> first | exact t.elim | rfl
theorem isi_bool (t : Kn d) : (tyName d h fun n => Q (.bl (isTy n "bool")) h) = Q (.bl (isBl d)) h := by
  cases d <;> first | exact t.elim | rfl
theorem isi_str (t : Kn d) : (tyName d h fun n => Q (.bl (isTy n "str")) h) = Q (.bl (isStr d)) h := by
  cases d <;> first | exact t.elim | rfl
theorem isi_list (t : Kn d) : (tyName d h fun n => Q (.bl (isTy n "list")) h) = Q (.bl (isLst d)) h := by
  cases d <;> first | exact t.elim | rfl
/-- a thing is a text -/
def isS (x : Str) : D → Bool
  | .str y => decide (y = x)
  | _ => false
/-- equality of values -/
def eqV (d e : D) : Bool := PyData.eqv (pd d) (pd e)
theorem shaped_str {x : Str} (hx : PyData.strOk x = true) : SeqAt.shaped (.str x) = true := by unfold SeqAt.shaped; simp [PyData.canLay0, PyData.depth, hx]
theorem eqV_scal {d e : D} (c : scalD d e = true) : eqV d e = sameS d e := by
  cases d <;> cases e <;> first | (simp [scalD] at c; done) | (simp [eqV, pd, sameS, PyData.eqv]; try (rename_i a b; cases a <;> cases b <;> rfl))
theorem rEq_of {neg : Bool} {m : Nat} {e : D} (t : Th n d) (u : Th m e) (hn : n ≤ 64) (hm : m ≤ 64) (q : Q (.bl (xor neg (eqV d e))) h) : rEqD' neg d e h Q := by
  unfold rEqD'
  cases c : scalD d e with
  | true => rw [eqV_scal c] at q; exact q
  | false => exact ⟨_, _, (t.shaped hn).1, (u.shaped hm).1, (t.shaped (h := h) hn).2, (u.shaped (h := h) hm).2, q⟩
theorem eqV_str {x : Str} : eqV d (.str x) = isS x d := by
  cases d <;> simp only [eqV, pd, isS, PyData.eqv]
  rw [Bool.eq_iff_iff]; simp
theorem eqS {x : Str} {neg : Bool} (t : Th n d) (hn : n ≤ 64 := by decide) (hx : PyData.strOk x = true := by decide +kernel) (q : Q (.bl (xor neg (isS x d))) h) : rEqD' neg d (.str x) h Q := by
  cases c : scalD d (.str x) with
  | true =>
    unfold rEqD'
    rw [c, ← eqV_scal c, eqV_str]
    exact q
  | false =>
    unfold rEqD'
    rw [c]
    exact ⟨_, _, (t.shaped hn).1, .str x, (t.shaped (h := h) hn).2, shaped_str hx, by rw [← eqV_str] at q; exact q⟩
end
theorem eqS' {h : DH} {d : D} {Q : DK} {x : Str} (t : T d) (q : Q (.bl (isS x d)) h) (hx : PyData.strOk x = true := by decide +kernel) : rEqD' false d (.str x) h Q := eqS t (by decide) hx (by simpa using q)
theorem neS' {h : DH} {d : D} {Q : DK} {x : Str} (t : T d) (q : Q (.bl (!isS x d)) h) (hx : PyData.strOk x = true := by decide +kernel) : rEqD' true d (.str x) h Q := eqS t (by decide) hx (by simpa using q)
theorem isS_str {x y : Str} : isS x (.str y) = decide (y = x) := rfl
section
variable {a b c d e : D} {l : List D}
theorem at0 : atI (a :: l) 0 = some a := atI_nat (j := 0) rfl
theorem at1 : atI (a :: b :: l) 1 = some b := atI_nat (j := 1) rfl
theorem at2 : atI (a :: b :: c :: l) 2 = some c := atI_nat (j := 2) rfl
theorem at3 : atI (a :: b :: c :: d :: l) 3 = some d := atI_nat (j := 3) rfl
theorem at4 : atI (a :: b :: c :: d :: e :: l) 4 = some e := atI_nat (j := 4) rfl
theorem atm1 : atI [a] (-1) = some a := rfl
theorem atm2 : atI [a, b] (-1) = some b := rfl
theorem atm3 : atI [a, b, c] (-1) = some c := rfl
theorem atm4 : atI [a, b, c, d] (-1) = some d := rfl
theorem atm5 : atI [a, b, c, d, e] (-1) = some e := rfl
end
theorem ls_turn_join : ((("turn" : Str) = ("join" : Str))) = False := eq_false (by decide +kernel)
theorem ls_turn_move : ((("turn" : Str) = ("move" : Str))) = False := eq_false (by decide +kernel)
theorem ls_turn_put : ((("turn" : Str) = ("put" : Str))) = False := eq_false (by decide +kernel)
theorem ls_join_turn : ((("join" : Str) = ("turn" : Str))) = False := eq_false (by decide +kernel)
theorem ls_join_move : ((("join" : Str) = ("move" : Str))) = False := eq_false (by decide +kernel)
theorem ls_join_put : ((("join" : Str) = ("put" : Str))) = False := eq_false (by decide +kernel)
theorem ls_move_turn : ((("move" : Str) = ("turn" : Str))) = False := eq_false (by decide +kernel)
theorem ls_move_join : ((("move" : Str) = ("join" : Str))) = False := eq_false (by decide +kernel)
theorem ls_move_put : ((("move" : Str) = ("put" : Str))) = False := eq_false (by decide +kernel)
theorem ls_put_turn : ((("put" : Str) = ("turn" : Str))) = False := eq_false (by decide +kernel)
theorem ls_put_join : ((("put" : Str) = ("join" : Str))) = False := eq_false (by decide +kernel)
theorem ls_put_move : ((("put" : Str) = ("move" : Str))) = False := eq_false (by decide +kernel)
/-! shops' fields -/
theorem hf_m : hasF [("Shop", ["machine", "kept", "elder"])] "Shop" "machine" = true := by decide +kernel
theorem hf_k : hasF [("Shop", ["machine", "kept", "elder"])] "Shop" "kept" = true := by decide +kernel
theorem hf_e : hasF [("Shop", ["machine", "kept", "elder"])] "Shop" "elder" = true := by decide +kernel
section
variable {v d d2 d3 : D}
theorem lk_m : List.lookup ("machine" : Str) [(("machine" : Str), d), (("kept" : Str), d2), (("elder" : Str), d3)] = some d := rfl
theorem lk_k : List.lookup ("kept" : Str) [(("machine" : Str), d), (("kept" : Str), d2), (("elder" : Str), d3)] = some d2 := rfl
theorem lk_e : List.lookup ("elder" : Str) [(("machine" : Str), d), (("kept" : Str), d2), (("elder" : Str), d3)] = some d3 := rfl
theorem lk_r : List.lookup ("row" : Str) [(("machine" : Str), d), (("kept" : Str), d2), (("elder" : Str), d3)] = none := rfl
theorem lk_c : List.lookup ("cost" : Str) [(("machine" : Str), d), (("kept" : Str), d2), (("elder" : Str), d3)] = none := rfl
theorem lk_b : List.lookup ("behaviour" : Str) [(("machine" : Str), d), (("kept" : Str), d2), (("elder" : Str), d3)] = none := rfl
theorem lk_l : List.lookup ("least" : Str) [(("machine" : Str), d), (("kept" : Str), d2), (("elder" : Str), d3)] = none := rfl
theorem lk_t : List.lookup ("turned" : Str) [(("machine" : Str), d), (("kept" : Str), d2), (("elder" : Str), d3)] = none := rfl
theorem lk_p : List.lookup ("put" : Str) [(("machine" : Str), d), (("kept" : Str), d2), (("elder" : Str), d3)] = none := rfl
theorem lk_o : List.lookup ("out" : Str) [(("machine" : Str), d), (("kept" : Str), d2), (("elder" : Str), d3)] = none := rfl
theorem lk_a : List.lookup ("back" : Str) [(("machine" : Str), d), (("kept" : Str), d2), (("elder" : Str), d3)] = none := rfl
theorem pd_m : putD "machine" v [] = [(("machine" : Str), v)] := rfl
theorem pd_k : putD "kept" v [(("machine" : Str), d)] = [(("machine" : Str), d), (("kept" : Str), v)] := by
  unfold putD
  rw [if_neg (by decide +kernel)]
  rfl
theorem pd_e : putD "elder" v [(("machine" : Str), d), (("kept" : Str), d2)] = [(("machine" : Str), d), (("kept" : Str), d2), (("elder" : Str), v)] := by
  unfold putD
  rw [if_neg (by decide +kernel)]
  unfold putD
  rw [if_neg (by decide +kernel)]
  rfl
theorem pd_k3 : putD "kept" v [(("machine" : Str), d), (("kept" : Str), d2), (("elder" : Str), d3)] = [(("machine" : Str), d), (("kept" : Str), v), (("elder" : Str), d3)] := by
  unfold putD
  rw [if_neg (by decide +kernel)]
  unfold putD
  rw [if_pos rfl]
end
end DL
set_option Elab.async false
set_option linter.all false
set_option maxRecDepth 100000
set_option maxHeartbeats 4000000
namespace DL
open PySem PySem.Spec PyProof.Rows L2
local macro_rules | `(tactic| walk_at "st") => `(tactic| (try simp only [dFn, startD, List.map_cons, List.map_nil, List.length_cons, List.length_nil, List.replicate_succ, List.replicate_zero, List.cons_append, List.nil_append, Nat.reduceSub, Nat.reduceAdd]) <;> try simp only [dFn, startD, dSeq, dIf, dRet, dRetN, dDrop, dAsg, dNext, dCont, dUnp, setsD, dPar, dSetIx, dFor, dItE, dItN, dRg1, dRg2, dEnum, dZip, dVar, dC, dBin, dChain, dB, dAnd, dOr, dNot, dAndV, dOrV, dNotV, dIfE, dNew, dNil, dCons, dTup, dLst, dCB, dLq, dListOfE, dLRg1, dLRg2, dCat, dCatE, dCatN, up_same, dIxL, dSl, dPart, dNoPart, dUn, dMeth, dMeth0, dCall, dLc, dYes, dIsi, rSubI, rModI, rDivI, rPowI, rLtI, rLeI, rGtI, rGeI, rInt, rInt0, rNegI, rLenE, lenE_tup, lenE_frz, lenE_str, lenE_ref, rLenL, rTupD, rTupleD, rAppD, rPopD, rClearD, rRevD, rExtD, rcvL, asB_bl, asI_int, iteB_t, iteB_f, isTup_non, isTup_bl, isTup_int, isTup_str, isTup_tup, isTup_frz, isTup_ref, isInt_non, isInt_bl, isInt_int, isInt_str, isInt_tup, isInt_frz, isInt_ref, isBl_non, isBl_bl, isBl_int, isBl_str, isBl_tup, isBl_frz, isBl_ref, isStr_non, isStr_bl, isStr_int, isStr_str, isStr_tup, isStr_frz, isStr_ref, isLst_non, isLst_bl, isLst_int, isLst_str, isLst_tup, isLst_frz, isLst_ref, isNon_non, isNon_bl, isNon_int, isNon_str, isNon_tup, isNon_frz, isNon_ref, Bool.not_true, Bool.not_false, Bool.or_false, Bool.or_true, Bool.false_or, Bool.true_or, Bool.and_true, Bool.true_and, Bool.and_false, Bool.false_and, asIt_tup, asIt_frz, asIt_str, inE_frz, inE_tup, inE_str, inE_ref, asIt_ref, asLs_frz, asLs_ref, zip_tup, zip_ref, asSq_tup, asSq_frz, asSq_ref, asL_ref, len_tup, len_frz, len_ref, len_str, add_int, add_str, add_tup, add_ref, mul_int, mul_str, mul_tup, mul_ref, ix_tup, ix_frz, ix_ref, ix_refL, ix_str, sl_tup, sl_str, sl_frz, sl_ref, eq_ii, ne_ii, eq_ss, ne_ss, eq_bb, ne_bb, is_bb, isnt_bb, is_n, isnt_n, set_ref, tg_name, tg_tup, oneD_one, twoD_two, tyName_eq, ty_tuple, ty_int, ty_bool, ty_str, ty_list, Kn.non, Kn.bl, Kn.int, Kn.str, Kn.tup, Kn.frz, optAt_some, lstAt_some, wipeD, List.map_cons, List.map_nil, List.length_cons, List.length_nil, List.cons_append, List.nil_append, List.append_nil, List.replicate_succ, List.replicate_zero, List.set_cons_zero, List.set_cons_succ, List.getElem?_cons_zero, List.getElem?_cons_succ, Nat.reduceSub, Nat.reduceAdd, Nat.add_zero, Nat.zero_add, true_and, and_true, at0, at1, at2, at3, at4, atm1, atm2, atm3, atm4, atm5, ls_turn_join, ls_turn_move, ls_turn_put, ls_join_turn, ls_join_move, ls_join_put, ls_move_turn, ls_move_join, ls_move_put, ls_put_turn, ls_put_join, ls_put_move, eq_self, decide_true, decide_false, rev_tup, rev_ref, dRaiseT, dRaiseI, dTryA, dTry0, hEA, hE0, optS, dIsX, isX_exc, isX_non, dFldX, fldX_exc, dZip3, zip3Of, threeD_three, dJoin, dSplit, dUpper, rIntOf, rStrOf, rMax2, rMin2, rPopAtD, rInsD, asS_str, intOf_int, intOf_bl, intOf_str, strOf_int, strOf_str, strOf_tup, isNon_exc, dNewV, dQl, asLl_ref, asLl_frz, add_frz, add_fr, add_rf, mul_frz, sl_scr, rev_frz, zip_ff, zip_tf, zip_ft, dStepT, asTp_tup, dFldI, dSetF, dMethI, dMakeI, refI_ref, insAt_ins, hf_m, hf_k, hf_e, lk_m, lk_k, lk_e, lk_r, lk_c, lk_b, lk_l, lk_t, lk_p, lk_o, lk_a, pd_m, pd_k, pd_e, pd_k3, dct_non, dct_bl, dct_int, dct_str, dct_tup, dct_frz, dct_scr, dct_exc, dct_ref, dctAt_lst, dctAt_ins, dctAt_dN, dctAt_dK, dMethE, dMethD, rGetD, rSetdD, rPopKD, rMin1, dNeD, dDisp, dPairs, dNewN, dNewK, dRg3, asEn_tup, asEn_frz, asEn_ref, dSetUnp, two2_tup, dRevN, dCatEE, dMulEE, set_refE, keyOf_int, keyOf_str, dCdIx, dCdGet, dTRg1, dTRg2, dIsX2, isX2_exc, isX2_non, dCallM, dSorted, dValsL, dExcT, dExcI, dCntS])
local macro_rules | `(tactic| k_call_by "st" $a) => `(tactic| (try simp only [dFn, startD, List.map_cons, List.map_nil, List.length_cons, List.length_nil, List.replicate_succ, List.replicate_zero, List.cons_append, List.nil_append, Nat.reduceSub, Nat.reduceAdd]) <;> try simp only [dFn, startD, dSeq, dIf, dRet, dRetN, dDrop, dAsg, dNext, dCont, dUnp, setsD, dPar, dSetIx, dFor, dItE, dItN, dRg1, dRg2, dEnum, dZip, dVar, dC, dBin, dChain, dB, dAnd, dOr, dNot, dAndV, dOrV, dNotV, dIfE, dNew, dNil, dCons, dTup, dLst, dCB, dLq, dListOfE, dLRg1, dLRg2, dCat, dCatE, dCatN, up_same, dIxL, dSl, dPart, dNoPart, dUn, dMeth, dMeth0, dCall, dLc, dYes, dIsi, rSubI, rModI, rDivI, rPowI, rLtI, rLeI, rGtI, rGeI, rInt, rInt0, rNegI, rLenE, lenE_tup, lenE_frz, lenE_str, lenE_ref, rLenL, rTupD, rTupleD, rAppD, rPopD, rClearD, rRevD, rExtD, rcvL, asB_bl, asI_int, iteB_t, iteB_f, isTup_non, isTup_bl, isTup_int, isTup_str, isTup_tup, isTup_frz, isTup_ref, isInt_non, isInt_bl, isInt_int, isInt_str, isInt_tup, isInt_frz, isInt_ref, isBl_non, isBl_bl, isBl_int, isBl_str, isBl_tup, isBl_frz, isBl_ref, isStr_non, isStr_bl, isStr_int, isStr_str, isStr_tup, isStr_frz, isStr_ref, isLst_non, isLst_bl, isLst_int, isLst_str, isLst_tup, isLst_frz, isLst_ref, isNon_non, isNon_bl, isNon_int, isNon_str, isNon_tup, isNon_frz, isNon_ref, Bool.not_true, Bool.not_false, Bool.or_false, Bool.or_true, Bool.false_or, Bool.true_or, Bool.and_true, Bool.true_and, Bool.and_false, Bool.false_and, asIt_tup, asIt_frz, asIt_str, inE_frz, inE_tup, inE_str, inE_ref, asIt_ref, asLs_frz, asLs_ref, zip_tup, zip_ref, asSq_tup, asSq_frz, asSq_ref, asL_ref, len_tup, len_frz, len_ref, len_str, add_int, add_str, add_tup, add_ref, mul_int, mul_str, mul_tup, mul_ref, ix_tup, ix_frz, ix_ref, ix_refL, ix_str, sl_tup, sl_str, sl_frz, sl_ref, eq_ii, ne_ii, eq_ss, ne_ss, eq_bb, ne_bb, is_bb, isnt_bb, is_n, isnt_n, set_ref, tg_name, tg_tup, oneD_one, twoD_two, tyName_eq, ty_tuple, ty_int, ty_bool, ty_str, ty_list, Kn.non, Kn.bl, Kn.int, Kn.str, Kn.tup, Kn.frz, optAt_some, lstAt_some, wipeD, List.map_cons, List.map_nil, List.length_cons, List.length_nil, List.cons_append, List.nil_append, List.append_nil, List.replicate_succ, List.replicate_zero, List.set_cons_zero, List.set_cons_succ, List.getElem?_cons_zero, List.getElem?_cons_succ, Nat.reduceSub, Nat.reduceAdd, Nat.add_zero, Nat.zero_add, true_and, and_true, at0, at1, at2, at3, at4, atm1, atm2, atm3, atm4, atm5, ls_turn_join, ls_turn_move, ls_turn_put, ls_join_turn, ls_join_move, ls_join_put, ls_move_turn, ls_move_join, ls_move_put, ls_put_turn, ls_put_join, ls_put_move, eq_self, decide_true, decide_false, rev_tup, rev_ref, dRaiseT, dRaiseI, dTryA, dTry0, hEA, hE0, optS, dIsX, isX_exc, isX_non, dFldX, fldX_exc, dZip3, zip3Of, threeD_three, dJoin, dSplit, dUpper, rIntOf, rStrOf, rMax2, rMin2, rPopAtD, rInsD, asS_str, intOf_int, intOf_bl, intOf_str, strOf_int, strOf_str, strOf_tup, isNon_exc, dNewV, dQl, asLl_ref, asLl_frz, add_frz, add_fr, add_rf, mul_frz, sl_scr, rev_frz, zip_ff, zip_tf, zip_ft, dStepT, asTp_tup, dFldI, dSetF, dMethI, dMakeI, refI_ref, insAt_ins, hf_m, hf_k, hf_e, lk_m, lk_k, lk_e, lk_r, lk_c, lk_b, lk_l, lk_t, lk_p, lk_o, lk_a, pd_m, pd_k, pd_e, pd_k3, dct_non, dct_bl, dct_int, dct_str, dct_tup, dct_frz, dct_scr, dct_exc, dct_ref, dctAt_lst, dctAt_ins, dctAt_dN, dctAt_dK, dMethE, dMethD, rGetD, rSetdD, rPopKD, rMin1, dNeD, dDisp, dPairs, dNewN, dNewK, dRg3, asEn_tup, asEn_frz, asEn_ref, dSetUnp, two2_tup, dRevN, dCatEE, dMulEE, set_refE, keyOf_int, keyOf_str, dCdIx, dCdGet, dTRg1, dTRg2, dIsX2, isX2_exc, isX2_non, dCallM, dSorted, dValsL, dExcT, dExcI, dCntS, $a:term])
local macro_rules | `(tactic| k_call_by "st" $a $b) => `(tactic| (try simp only [dFn, startD, List.map_cons, List.map_nil, List.length_cons, List.length_nil, List.replicate_succ, List.replicate_zero, List.cons_append, List.nil_append, Nat.reduceSub, Nat.reduceAdd]) <;> try simp only [dFn, startD, dSeq, dIf, dRet, dRetN, dDrop, dAsg, dNext, dCont, dUnp, setsD, dPar, dSetIx, dFor, dItE, dItN, dRg1, dRg2, dEnum, dZip, dVar, dC, dBin, dChain, dB, dAnd, dOr, dNot, dAndV, dOrV, dNotV, dIfE, dNew, dNil, dCons, dTup, dLst, dCB, dLq, dListOfE, dLRg1, dLRg2, dCat, dCatE, dCatN, up_same, dIxL, dSl, dPart, dNoPart, dUn, dMeth, dMeth0, dCall, dLc, dYes, dIsi, rSubI, rModI, rDivI, rPowI, rLtI, rLeI, rGtI, rGeI, rInt, rInt0, rNegI, rLenE, lenE_tup, lenE_frz, lenE_str, lenE_ref, rLenL, rTupD, rTupleD, rAppD, rPopD, rClearD, rRevD, rExtD, rcvL, asB_bl, asI_int, iteB_t, iteB_f, isTup_non, isTup_bl, isTup_int, isTup_str, isTup_tup, isTup_frz, isTup_ref, isInt_non, isInt_bl, isInt_int, isInt_str, isInt_tup, isInt_frz, isInt_ref, isBl_non, isBl_bl, isBl_int, isBl_str, isBl_tup, isBl_frz, isBl_ref, isStr_non, isStr_bl, isStr_int, isStr_str, isStr_tup, isStr_frz, isStr_ref, isLst_non, isLst_bl, isLst_int, isLst_str, isLst_tup, isLst_frz, isLst_ref, isNon_non, isNon_bl, isNon_int, isNon_str, isNon_tup, isNon_frz, isNon_ref, Bool.not_true, Bool.not_false, Bool.or_false, Bool.or_true, Bool.false_or, Bool.true_or, Bool.and_true, Bool.true_and, Bool.and_false, Bool.false_and, asIt_tup, asIt_frz, asIt_str, inE_frz, inE_tup, inE_str, inE_ref, asIt_ref, asLs_frz, asLs_ref, zip_tup, zip_ref, asSq_tup, asSq_frz, asSq_ref, asL_ref, len_tup, len_frz, len_ref, len_str, add_int, add_str, add_tup, add_ref, mul_int, mul_str, mul_tup, mul_ref, ix_tup, ix_frz, ix_ref, ix_refL, ix_str, sl_tup, sl_str, sl_frz, sl_ref, eq_ii, ne_ii, eq_ss, ne_ss, eq_bb, ne_bb, is_bb, isnt_bb, is_n, isnt_n, set_ref, tg_name, tg_tup, oneD_one, twoD_two, tyName_eq, ty_tuple, ty_int, ty_bool, ty_str, ty_list, Kn.non, Kn.bl, Kn.int, Kn.str, Kn.tup, Kn.frz, optAt_some, lstAt_some, wipeD, List.map_cons, List.map_nil, List.length_cons, List.length_nil, List.cons_append, List.nil_append, List.append_nil, List.replicate_succ, List.replicate_zero, List.set_cons_zero, List.set_cons_succ, List.getElem?_cons_zero, List.getElem?_cons_succ, Nat.reduceSub, Nat.reduceAdd, Nat.add_zero, Nat.zero_add, true_and, and_true, at0, at1, at2, at3, at4, atm1, atm2, atm3, atm4, atm5, ls_turn_join, ls_turn_move, ls_turn_put, ls_join_turn, ls_join_move, ls_join_put, ls_move_turn, ls_move_join, ls_move_put, ls_put_turn, ls_put_join, ls_put_move, eq_self, decide_true, decide_false, rev_tup, rev_ref, dRaiseT, dRaiseI, dTryA, dTry0, hEA, hE0, optS, dIsX, isX_exc, isX_non, dFldX, fldX_exc, dZip3, zip3Of, threeD_three, dJoin, dSplit, dUpper, rIntOf, rStrOf, rMax2, rMin2, rPopAtD, rInsD, asS_str, intOf_int, intOf_bl, intOf_str, strOf_int, strOf_str, strOf_tup, isNon_exc, dNewV, dQl, asLl_ref, asLl_frz, add_frz, add_fr, add_rf, mul_frz, sl_scr, rev_frz, zip_ff, zip_tf, zip_ft, dStepT, asTp_tup, dFldI, dSetF, dMethI, dMakeI, refI_ref, insAt_ins, hf_m, hf_k, hf_e, lk_m, lk_k, lk_e, lk_r, lk_c, lk_b, lk_l, lk_t, lk_p, lk_o, lk_a, pd_m, pd_k, pd_e, pd_k3, dct_non, dct_bl, dct_int, dct_str, dct_tup, dct_frz, dct_scr, dct_exc, dct_ref, dctAt_lst, dctAt_ins, dctAt_dN, dctAt_dK, dMethE, dMethD, rGetD, rSetdD, rPopKD, rMin1, dNeD, dDisp, dPairs, dNewN, dNewK, dRg3, asEn_tup, asEn_frz, asEn_ref, dSetUnp, two2_tup, dRevN, dCatEE, dMulEE, set_refE, keyOf_int, keyOf_str, dCdIx, dCdGet, dTRg1, dTRg2, dIsX2, isX2_exc, isX2_non, dCallM, dSorted, dValsL, dExcT, dExcI, dCntS, $a:term, $b:term])
local macro_rules | `(tactic| cell_end $a $b $c) => `(tactic| (try simp only [dFn, startD, List.map_cons, List.map_nil, List.length_cons, List.length_nil, List.replicate_succ, List.replicate_zero, List.cons_append, List.nil_append, Nat.reduceSub, Nat.reduceAdd]) <;> try simp only [dFn, startD, dSeq, dIf, dRet, dRetN, dDrop, dAsg, dNext, dCont, dUnp, setsD, dPar, dSetIx, dFor, dItE, dItN, dRg1, dRg2, dEnum, dZip, dVar, dC, dBin, dChain, dB, dAnd, dOr, dNot, dAndV, dOrV, dNotV, dIfE, dNew, dNil, dCons, dTup, dLst, dCB, dLq, dListOfE, dLRg1, dLRg2, dCat, dCatE, dCatN, up_same, dIxL, dSl, dPart, dNoPart, dUn, dMeth, dMeth0, dCall, dLc, dYes, dIsi, rSubI, rModI, rDivI, rPowI, rLtI, rLeI, rGtI, rGeI, rInt, rInt0, rNegI, rLenE, lenE_tup, lenE_frz, lenE_str, lenE_ref, rLenL, rTupD, rTupleD, rAppD, rPopD, rClearD, rRevD, rExtD, rcvL, asB_bl, asI_int, iteB_t, iteB_f, isTup_non, isTup_bl, isTup_int, isTup_str, isTup_tup, isTup_frz, isTup_ref, isInt_non, isInt_bl, isInt_int, isInt_str, isInt_tup, isInt_frz, isInt_ref, isBl_non, isBl_bl, isBl_int, isBl_str, isBl_tup, isBl_frz, isBl_ref, isStr_non, isStr_bl, isStr_int, isStr_str, isStr_tup, isStr_frz, isStr_ref, isLst_non, isLst_bl, isLst_int, isLst_str, isLst_tup, isLst_frz, isLst_ref, isNon_non, isNon_bl, isNon_int, isNon_str, isNon_tup, isNon_frz, isNon_ref, Bool.not_true, Bool.not_false, Bool.or_false, Bool.or_true, Bool.false_or, Bool.true_or, Bool.and_true, Bool.true_and, Bool.and_false, Bool.false_and, asIt_tup, asIt_frz, asIt_str, inE_frz, inE_tup, inE_str, inE_ref, asIt_ref, asLs_frz, asLs_ref, zip_tup, zip_ref, asSq_tup, asSq_frz, asSq_ref, asL_ref, len_tup, len_frz, len_ref, len_str, add_int, add_str, add_tup, add_ref, mul_int, mul_str, mul_tup, mul_ref, ix_tup, ix_frz, ix_ref, ix_refL, ix_str, sl_tup, sl_str, sl_frz, sl_ref, eq_ii, ne_ii, eq_ss, ne_ss, eq_bb, ne_bb, is_bb, isnt_bb, is_n, isnt_n, set_ref, tg_name, tg_tup, oneD_one, twoD_two, tyName_eq, ty_tuple, ty_int, ty_bool, ty_str, ty_list, Kn.non, Kn.bl, Kn.int, Kn.str, Kn.tup, Kn.frz, optAt_some, lstAt_some, wipeD, List.map_cons, List.map_nil, List.length_cons, List.length_nil, List.cons_append, List.nil_append, List.append_nil, List.replicate_succ, List.replicate_zero, List.set_cons_zero, List.set_cons_succ, List.getElem?_cons_zero, List.getElem?_cons_succ, Nat.reduceSub, Nat.reduceAdd, Nat.add_zero, Nat.zero_add, true_and, and_true, at0, at1, at2, at3, at4, atm1, atm2, atm3, atm4, atm5, ls_turn_join, ls_turn_move, ls_turn_put, ls_join_turn, ls_join_move, ls_join_put, ls_move_turn, ls_move_join, ls_move_put, ls_put_turn, ls_put_join, ls_put_move, eq_self, decide_true, decide_false, rev_tup, rev_ref, dRaiseT, dRaiseI, dTryA, dTry0, hEA, hE0, optS, dIsX, isX_exc, isX_non, dFldX, fldX_exc, dZip3, zip3Of, threeD_three, dJoin, dSplit, dUpper, rIntOf, rStrOf, rMax2, rMin2, rPopAtD, rInsD, asS_str, intOf_int, intOf_bl, intOf_str, strOf_int, strOf_str, strOf_tup, isNon_exc, dNewV, dQl, asLl_ref, asLl_frz, add_frz, add_fr, add_rf, mul_frz, sl_scr, rev_frz, zip_ff, zip_tf, zip_ft, dStepT, asTp_tup, dFldI, dSetF, dMethI, dMakeI, refI_ref, insAt_ins, hf_m, hf_k, hf_e, lk_m, lk_k, lk_e, lk_r, lk_c, lk_b, lk_l, lk_t, lk_p, lk_o, lk_a, pd_m, pd_k, pd_e, pd_k3, dct_non, dct_bl, dct_int, dct_str, dct_tup, dct_frz, dct_scr, dct_exc, dct_ref, dctAt_lst, dctAt_ins, dctAt_dN, dctAt_dK, dMethE, dMethD, rGetD, rSetdD, rPopKD, rMin1, dNeD, dDisp, dPairs, dNewN, dNewK, dRg3, asEn_tup, asEn_frz, asEn_ref, dSetUnp, two2_tup, dRevN, dCatEE, dMulEE, set_refE, keyOf_int, keyOf_str, dCdIx, dCdGet, dTRg1, dTRg2, dIsX2, isX2_exc, isX2_non, dCallM, dSorted, dValsL, dExcT, dExcI, dCntS, $a:term, $b:term, $c:term])
local macro_rules | `(tactic| kpf_say $a $b $c $d) => `(tactic| (try simp only [dFn, startD, List.map_cons, List.map_nil, List.length_cons, List.length_nil, List.replicate_succ, List.replicate_zero, List.cons_append, List.nil_append, Nat.reduceSub, Nat.reduceAdd]) <;> try simp only [dFn, startD, dSeq, dIf, dRet, dRetN, dDrop, dAsg, dNext, dCont, dUnp, setsD, dPar, dSetIx, dFor, dItE, dItN, dRg1, dRg2, dEnum, dZip, dVar, dC, dBin, dChain, dB, dAnd, dOr, dNot, dAndV, dOrV, dNotV, dIfE, dNew, dNil, dCons, dTup, dLst, dCB, dLq, dListOfE, dLRg1, dLRg2, dCat, dCatE, dCatN, up_same, dIxL, dSl, dPart, dNoPart, dUn, dMeth, dMeth0, dCall, dLc, dYes, dIsi, rSubI, rModI, rDivI, rPowI, rLtI, rLeI, rGtI, rGeI, rInt, rInt0, rNegI, rLenE, lenE_tup, lenE_frz, lenE_str, lenE_ref, rLenL, rTupD, rTupleD, rAppD, rPopD, rClearD, rRevD, rExtD, rcvL, asB_bl, asI_int, iteB_t, iteB_f, isTup_non, isTup_bl, isTup_int, isTup_str, isTup_tup, isTup_frz, isTup_ref, isInt_non, isInt_bl, isInt_int, isInt_str, isInt_tup, isInt_frz, isInt_ref, isBl_non, isBl_bl, isBl_int, isBl_str, isBl_tup, isBl_frz, isBl_ref, isStr_non, isStr_bl, isStr_int, isStr_str, isStr_tup, isStr_frz, isStr_ref, isLst_non, isLst_bl, isLst_int, isLst_str, isLst_tup, isLst_frz, isLst_ref, isNon_non, isNon_bl, isNon_int, isNon_str, isNon_tup, isNon_frz, isNon_ref, Bool.not_true, Bool.not_false, Bool.or_false, Bool.or_true, Bool.false_or, Bool.true_or, Bool.and_true, Bool.true_and, Bool.and_false, Bool.false_and, asIt_tup, asIt_frz, asIt_str, inE_frz, inE_tup, inE_str, inE_ref, asIt_ref, asLs_frz, asLs_ref, zip_tup, zip_ref, asSq_tup, asSq_frz, asSq_ref, asL_ref, len_tup, len_frz, len_ref, len_str, add_int, add_str, add_tup, add_ref, mul_int, mul_str, mul_tup, mul_ref, ix_tup, ix_frz, ix_ref, ix_refL, ix_str, sl_tup, sl_str, sl_frz, sl_ref, eq_ii, ne_ii, eq_ss, ne_ss, eq_bb, ne_bb, is_bb, isnt_bb, is_n, isnt_n, set_ref, tg_name, tg_tup, oneD_one, twoD_two, tyName_eq, ty_tuple, ty_int, ty_bool, ty_str, ty_list, Kn.non, Kn.bl, Kn.int, Kn.str, Kn.tup, Kn.frz, optAt_some, lstAt_some, wipeD, List.map_cons, List.map_nil, List.length_cons, List.length_nil, List.cons_append, List.nil_append, List.append_nil, List.replicate_succ, List.replicate_zero, List.set_cons_zero, List.set_cons_succ, List.getElem?_cons_zero, List.getElem?_cons_succ, Nat.reduceSub, Nat.reduceAdd, Nat.add_zero, Nat.zero_add, true_and, and_true, at0, at1, at2, at3, at4, atm1, atm2, atm3, atm4, atm5, ls_turn_join, ls_turn_move, ls_turn_put, ls_join_turn, ls_join_move, ls_join_put, ls_move_turn, ls_move_join, ls_move_put, ls_put_turn, ls_put_join, ls_put_move, eq_self, decide_true, decide_false, rev_tup, rev_ref, dRaiseT, dRaiseI, dTryA, dTry0, hEA, hE0, optS, dIsX, isX_exc, isX_non, dFldX, fldX_exc, dZip3, zip3Of, threeD_three, dJoin, dSplit, dUpper, rIntOf, rStrOf, rMax2, rMin2, rPopAtD, rInsD, asS_str, intOf_int, intOf_bl, intOf_str, strOf_int, strOf_str, strOf_tup, isNon_exc, dNewV, dQl, asLl_ref, asLl_frz, add_frz, add_fr, add_rf, mul_frz, sl_scr, rev_frz, zip_ff, zip_tf, zip_ft, dStepT, asTp_tup, dFldI, dSetF, dMethI, dMakeI, refI_ref, insAt_ins, hf_m, hf_k, hf_e, lk_m, lk_k, lk_e, lk_r, lk_c, lk_b, lk_l, lk_t, lk_p, lk_o, lk_a, pd_m, pd_k, pd_e, pd_k3, dct_non, dct_bl, dct_int, dct_str, dct_tup, dct_frz, dct_scr, dct_exc, dct_ref, dctAt_lst, dctAt_ins, dctAt_dN, dctAt_dK, dMethE, dMethD, rGetD, rSetdD, rPopKD, rMin1, dNeD, dDisp, dPairs, dNewN, dNewK, dRg3, asEn_tup, asEn_frz, asEn_ref, dSetUnp, two2_tup, dRevN, dCatEE, dMulEE, set_refE, keyOf_int, keyOf_str, dCdIx, dCdGet, dTRg1, dTRg2, dIsX2, isX2_exc, isX2_non, dCallM, dSorted, dValsL, dExcT, dExcI, dCntS, $a:term, $b:term, $c:term, $d:term])
def isIn (a b : Int) : D → Bool
  | .int i => decide (a ≤ i) && decide (i ≤ b)
  | _ => false
def p_is_whole : DSp
  | [d], h, Q, _ => Kn d ∧ Q (.bl (isInt d)) h
  | _, _, _, _ => False
def p_is_in : DSp
  | [d, .int a, .int b], h, Q, _ => Kn d ∧ Q (.bl (isIn a b d)) h
  | _, _, _, _ => False
/-- whether a thing is a table of w words -/
def isTab (w : Int) : D → Bool
  | .tup ds => decide ((ds.length : Int) = w) && ds.all (isIn 0 (w - 1))
  | _ => false
def p_is_table : DSp
  | [d, .int w], h, Q, _ => T d ∧ Q (.bl (isTab w d)) h
  | _, _, _, _ => False
def areTabs (w : Int) : D → Bool
  | .tup ds => decide ((ds.length : Int) = w) && ds.all (isTab w)
  | _ => false
def p_are_tables : DSp
  | [d, .int w], h, Q, _ => T d ∧ Q (.bl (areTabs w d)) h
  | _, _, _, _ => False
/-- the last thing -/
def lastD : D → List D → D
  | c, [] => c
  | _, y :: r => lastD y r
def isDeed (w pl : Int) : D → Bool
  | .tup (s :: a :: x :: c :: r) => isIn 0 (pl - 1) a && (isIn 1 3 (lastD c r) && (bif isS "turn" s then decide (r.length = 0) && isTab w x else bif isS "join" s then decide (r.length = 1) && (isIn 0 (pl - 1) x && areTabs w c)
      else bif isS "move" s then decide (r.length = 0) && isIn 0 (pl - 1) x else isS "put" s && (decide (r.length = 0) && isIn 0 (w - 1) x)))
  | _ => false
def p_is_deed : DSp
  | [d, .int w, .int pl], h, Q, _ => T d ∧ Q (.bl (isDeed w pl d)) h
  | _, _, _, _ => False
def isMach : D → Bool
  | .tup [.int w, .int pl, .tup ds] => isIn 2 4 (.int w) && (isIn 1 2 (.int pl) && (decide (1 ≤ ds.length) && (decide (ds.length ≤ 6) && ds.all (isDeed w pl))))
  | _ => false
def p_is_machine : DSp
  | [d], h, Q, _ => T d ∧ Q (.bl (isMach d)) h
  | _, _, _, _ => False
/-! slots of is_whole: 0 thing -/
def b_is_whole (E : DXE) : DTS :=
    (dRet (dAndV (dIsi "int" (dVar 0)) (dNotV (dIsi "bool" (dVar 0)))))
/-! slots of is_in: 0 thing, 1 low, 2 high -/
def b_is_in (E : DXE) : DTS :=
    (dRet (dAndV (dCall p_is_whole 1 E (dCons (dVar 0) dNil)) (dChain rLeI rLeI (dVar 1) (dVar 0) (dVar 2))))
/-! slots of is_table: 0 thing, 1 words, 2 one -/
def b_is_table (E : DXE) : DTS :=
    (dSeq (dIf (dOr (dNot (dB (dIsi "tuple" (dVar 0)))) (dB (dBin (rEqD' true) (dCB rLenE (dCons (dVar 0) dNil)) (dVar 1)))) (dRet (dC (.bl false))) dNext)
    (dRet (dLq rAllD (dLc (dItE (dVar 0)) (.name 2) [2] dYes (dCall p_is_in 3 X0 (dCons (dVar 2) (dCons (dC (.int 0)) (dCons (dBin rSubI (dVar 1) (dC (.int 1))) dNil))))))))
/-! slots of are_tables: 0 thing, 1 words, 2 one -/
def b_are_tables (E : DXE) : DTS :=
    (dRet (dAndV (dIsi "tuple" (dVar 0)) (dAndV (dBin (rEqD' false) (dCB rLenE (dCons (dVar 0) dNil)) (dVar 1)) (dLq rAllD (dLc (dItE (dVar 0)) (.name 2) [2] dYes (dCall p_is_table 2 X0 (dCons (dVar 2) (dCons (dVar 1) dNil))))))))
/-! slots of is_deed: 0 thing, 1 words, 2 places -/
def b_is_deed (E : DXE) : DTS :=
    (dSeq (dIf (dOr (dNot (dB (dIsi "tuple" (dVar 0)))) (dB (dBin rLtI (dCB rLenE (dCons (dVar 0) dNil)) (dC (.int 4))))) (dRet (dC (.bl false))) dNext)
    (dSeq (dIf (dOr (dNot (dB (dCall p_is_in 3 E (dCons (dBin rIxE (dVar 0) (dC (.int 1))) (dCons (dC (.int 0)) (dCons (dBin rSubI (dVar 2) (dC (.int 1))) dNil)))))) (dNot (dB (dCall p_is_in 3 E (dCons (dBin rIxE (dVar 0) (dUn rNegI (dC (.int 1)))) (dCons (dC (.int 1)) (dCons (dC (.int 3)) dNil))))))) (dRet (dC (.bl false))) dNext)
    (dSeq (dIf (dB (dBin (rEqD' false) (dBin rIxE (dVar 0) (dC (.int 0))) (dC (.str "turn")))) (dRet (dAndV (dBin (rEqD' false) (dCB rLenE (dCons (dVar 0) dNil)) (dC (.int 4))) (dCall p_is_table 2 E (dCons (dBin rIxE (dVar 0) (dC (.int 2))) (dCons (dVar 1) dNil))))) dNext)
    (dSeq (dIf (dB (dBin (rEqD' false) (dBin rIxE (dVar 0) (dC (.int 0))) (dC (.str "join")))) (dRet (dAndV (dBin (rEqD' false) (dCB rLenE (dCons (dVar 0) dNil)) (dC (.int 5))) (dAndV (dCall p_is_in 3 E (dCons (dBin rIxE (dVar 0) (dC (.int 2))) (dCons (dC (.int 0)) (dCons (dBin rSubI (dVar 2) (dC (.int 1))) dNil)))) (dCall p_are_tables 2 E (dCons (dBin rIxE (dVar 0) (dC (.int 3))) (dCons (dVar 1) dNil)))))) dNext)
    (dSeq (dIf (dB (dBin (rEqD' false) (dBin rIxE (dVar 0) (dC (.int 0))) (dC (.str "move")))) (dRet (dAndV (dBin (rEqD' false) (dCB rLenE (dCons (dVar 0) dNil)) (dC (.int 4))) (dCall p_is_in 3 E (dCons (dBin rIxE (dVar 0) (dC (.int 2))) (dCons (dC (.int 0)) (dCons (dBin rSubI (dVar 2) (dC (.int 1))) dNil)))))) dNext)
    (dRet (dAndV (dBin (rEqD' false) (dBin rIxE (dVar 0) (dC (.int 0))) (dC (.str "put"))) (dAndV (dBin (rEqD' false) (dCB rLenE (dCons (dVar 0) dNil)) (dC (.int 4))) (dCall p_is_in 3 E (dCons (dBin rIxE (dVar 0) (dC (.int 2))) (dCons (dC (.int 0)) (dCons (dBin rSubI (dVar 1) (dC (.int 1))) dNil))))))))))))
/-! slots of is_machine: 0 thing, 1 words, 2 places, 3 deeds, 4 deed -/
def b_is_machine (E : DXE) : DTS :=
    (dSeq (dIf (dOr (dNot (dB (dIsi "tuple" (dVar 0)))) (dB (dBin (rEqD' true) (dCB rLenE (dCons (dVar 0) dNil)) (dC (.int 3))))) (dRet (dC (.bl false))) dNext)
    (dSeq (dUnp [1, 2, 3] (dVar 0))
    (dSeq (dIf (dOr (dNot (dB (dCall p_is_in 3 E (dCons (dVar 1) (dCons (dC (.int 2)) (dCons (dC (.int 4)) dNil)))))) (dNot (dB (dCall p_is_in 3 E (dCons (dVar 2) (dCons (dC (.int 1)) (dCons (dC (.int 2)) dNil))))))) (dRet (dC (.bl false))) dNext)
    (dSeq (dIf (dOr (dNot (dB (dIsi "tuple" (dVar 3)))) (dNot (dB (dChain rLeI rLeI (dC (.int 1)) (dCB rLenE (dCons (dVar 3) dNil)) (dC (.int 6)))))) (dRet (dC (.bl false))) dNext)
    (dRet (dLq rAllD (dLc (dItE (dVar 3)) (.name 4) [4] dYes (dCall p_is_deed 3 X0 (dCons (dVar 4) (dCons (dVar 1) (dCons (dVar 2) dNil)))))))))))
theorem pure_is_whole : ∀ ds h Q E, p_is_whole ds h Q E → dFn 1 b_is_whole ds h Q E := by
  intro ds h Q E q
  unfold p_is_whole at q
  split at q
  · obtain ⟨k, q⟩ := q
    unfold b_is_whole
    walk_at "st"
    simp only [tyName_eq k, ty_int, ty_bool]
    rename_i d
    cases d <;> exact wk_of q
  · exact q.elim
theorem pure_is_in : ∀ ds h Q E, p_is_in ds h Q E → dFn 3 b_is_in ds h Q E := by
  intro ds h Q E q
  unfold p_is_in at q
  split at q
  · obtain ⟨k, q⟩ := q
    unfold b_is_in
    walk_at "st"
    refine ⟨k, ?_⟩
    rename_i d a b
    cases d with
    | int i =>
      refine iteB_of (fun c => ?_) fun c => ?_
      · simp only [isIn, c, Bool.true_and] at q; exact wk_of q
      · simp only [isIn, c, Bool.false_and] at q; exact wk_of q
    | _ => exact wk_of q
  · exact q.elim
theorem pure_is_table : ∀ ds h Q E, p_is_table ds h Q E → dFn 3 b_is_table ds h Q E := by
  intro ds h Q E q
  unfold p_is_table at q
  split at q
  · obtain ⟨k, q⟩ := q
    unfold b_is_table
    rename_i d w
    walk_at "st"
    simp only [tyName_eq k.kn, ty_tuple]
    cases d with
    | tup ds =>
      walk_at "st"
      refine iteB_of (fun c => ?_) fun c => ?_
      · exact wk_of (by simp at c; simpa [isTab, c] using q)
      · refine comp_map (fun x => .bl (isIn 0 (w - 1) x)) (by trivial) k.tup.1 (fun x hx K hK => ?_) ?_
        · walk_at "st"; exact ⟨(k.tup.2 x hx).kn, hK⟩
        · exact all_map (wk_of (by simp at c; simpa [isTab, c] using q))
    | _ => exact wk_of q
  · exact q.elim
theorem pure_are_tables : ∀ ds h Q E, p_are_tables ds h Q E → dFn 3 b_are_tables ds h Q E := by
  intro ds h Q E q
  unfold p_are_tables at q
  split at q
  · obtain ⟨k, q⟩ := q
    unfold b_are_tables
    rename_i d w
    walk_at "st"
    simp only [tyName_eq k.kn, ty_tuple]
    cases d with
    | tup ds =>
      walk_at "st"
      refine iteB_of (fun c => ?_) fun c => ?_
      · refine comp_map (fun x => .bl (isTab w x)) (by trivial) k.tup.1 (fun x hx K hK => ?_) ?_
        · walk_at "st"; exact ⟨k.tup.2 x hx, hK⟩
        · exact all_map (wk_of (by simp at c; simpa [areTabs, c] using q))
      · exact wk_of (by simp at c; simpa [areTabs, c] using q)
    | _ => exact wk_of q
  · exact q.elim
theorem atI_last {α : Type} {l : List α} {x : α} : atI (l ++ [x]) (-1) = some x := by
  unfold atI
  rw [show ixN (l ++ [x]).length (-1) = some l.length by unfold ixN; simp [List.length_append]; omega]
  simp
theorem lastD_app : ∀ (c : D) (r : List D), ∃ l, c :: r = l ++ [lastD c r]
  | c, [] => ⟨[], rfl⟩
  | c, y :: r => by
    obtain ⟨l, e⟩ := lastD_app y r
    exact ⟨c :: l, by show c :: (y :: r) = (c :: l) ++ [lastD y r]; rw [List.cons_append, ← e]⟩
theorem lastD_mem (c : D) (r : List D) : lastD c r ∈ c :: r := by
  obtain ⟨l, e⟩ := lastD_app c r
  rw [e]; simp
theorem atI_lastD {c : D} {r : List D} (l : List D) : atI (l ++ c :: r) (-1) = some (lastD c r) := by
  obtain ⟨m, e⟩ := lastD_app c r
  rw [e, ← List.append_assoc]
  exact atI_last
theorem isS_turn {d : D} (h : isS "turn" d = true) : isS "join" d = false ∧ isS "move" d = false ∧ isS "put" d = false := by
  cases d with
  | str x =>
    have e := of_decide_eq_true h
    subst e
    exact ⟨by decide +kernel, by decide +kernel, by decide +kernel⟩
  | _ => cases h
theorem isS_join {d : D} (h : isS "join" d = true) : isS "turn" d = false ∧ isS "move" d = false ∧ isS "put" d = false := by
  cases d with
  | str x =>
    have e := of_decide_eq_true h
    subst e
    exact ⟨by decide +kernel, by decide +kernel, by decide +kernel⟩
  | _ => cases h
theorem isS_move {d : D} (h : isS "move" d = true) : isS "turn" d = false ∧ isS "join" d = false ∧ isS "put" d = false := by
  cases d with
  | str x =>
    have e := of_decide_eq_true h
    subst e
    exact ⟨by decide +kernel, by decide +kernel, by decide +kernel⟩
  | _ => cases h
theorem pure_is_deed : ∀ ds h Q E, p_is_deed ds h Q E → dFn 3 b_is_deed ds h Q E := by
  intro ds h Q E q
  unfold p_is_deed at q
  split at q
  · obtain ⟨k, q⟩ := q
    unfold b_is_deed
    rename_i d w pl
    walk_at "st"
    simp only [tyName_eq k.kn, ty_tuple]
    cases d with
    | tup ds =>
      walk_at "st"
      obtain ⟨sz, km⟩ := k.tup
      rcases ds with _ | ⟨s, _ | ⟨a, _ | ⟨x, _ | ⟨c, r⟩⟩⟩⟩
      · exact wk_of q
      · exact wk_of q
      · exact wk_of q
      · exact wk_of q
      have l4 : decide (((s :: a :: x :: c :: r).length : Int) < 4) = false := decide_eq_false (by simp only [List.length_cons]; omega)
      have i0 : atI (s :: a :: x :: c :: r) 0 = some s := atI_nat (j := 0) rfl
      have i1 : atI (s :: a :: x :: c :: r) 1 = some a := atI_nat (j := 1) rfl
      have i2 : atI (s :: a :: x :: c :: r) 2 = some x := atI_nat (j := 2) rfl
      have i3 : atI (s :: a :: x :: c :: r) 3 = some c := atI_nat (j := 3) rfl
      have iz : atI (s :: a :: x :: c :: r) (-1) = some (lastD c r) := atI_lastD [s, a, x]
      have mz : lastD c r ∈ s :: a :: x :: c :: r := by
        exact List.mem_cons_of_mem _ (List.mem_cons_of_mem _ (List.mem_cons_of_mem _ (lastD_mem c r)))
      have n4 : decide (((s :: a :: x :: c :: r).length : Int) = 4) = decide (r.length = 0) := by simp only [List.length_cons]; congr 1; simp only [eq_iff_iff]; omega
      have n5 : decide (((s :: a :: x :: c :: r).length : Int) = 5) = decide (r.length = 1) := by simp only [List.length_cons]; congr 1; simp only [eq_iff_iff]; omega
      simp only [l4, i0, i1, i2, i3, iz, n4, n5, optAt_some, iteB_f]
      have ts := km s (by simp)
      refine ⟨(km a (by simp)).kn, iteB_of (fun c1 => ?_) fun c1 => ⟨(km _ mz).kn, iteB_of (fun c2 => ?_) fun c2 => eqS' ts (iteB_of (fun c3 => ?_) fun c3 => eqS' ts (iteB_of (fun c4 => ?_) fun c4 => eqS' ts (iteB_of (fun c5 => ?_) fun c5 => eqS' ts (iteB_of (fun c6 => ?_) fun c6 => ?_))))⟩⟩
      all_goals simp only [isDeed] at q
      · simp only [Bool.not_eq_true'] at c1; rw [c1] at q; exact wk_of q
      · simp only [Bool.not_eq_true'] at c2; rw [c2, Bool.false_and, Bool.and_false] at q; exact wk_of q
      all_goals
        simp only [Bool.not_eq_false'] at c1 c2
        simp only [c1, c2, c3, Bool.true_and, cond_true, cond_false] at q
      · refine iteB_of (fun c7 => ⟨km x (by simp), wk_of ?_⟩) fun c7 => wk_of ?_ <;> simpa only [c7, Bool.true_and, Bool.false_and] using q
      all_goals simp only [c4, cond_true, cond_false] at q
      · refine iteB_of (fun c7 => ⟨(km x (by simp)).kn, iteB_of (fun c8 => ⟨km c (by simp), wk_of ?_⟩) fun c8 => wk_of ?_⟩) fun c7 => wk_of ?_
        · simpa only [c7, c8, Bool.true_and, Bool.false_and] using q
        · simpa only [c7, c8, Bool.true_and, Bool.false_and] using q
        · simpa only [c7, Bool.true_and, Bool.false_and] using q
      all_goals simp only [c5, cond_true, cond_false] at q
      · refine iteB_of (fun c7 => ⟨(km x (by simp)).kn, wk_of ?_⟩) fun c7 => wk_of ?_ <;> simpa only [c7, Bool.true_and, Bool.false_and] using q
      · refine iteB_of (fun c7 => ⟨(km x (by simp)).kn, wk_of ?_⟩) fun c7 => wk_of ?_ <;> simpa only [c6, c7, Bool.true_and, Bool.false_and] using q
      · simpa only [c6, Bool.true_and, Bool.false_and] using wk_of q
    | _ => exact wk_of q
  · exact q.elim
theorem pure_is_machine : ∀ ds h Q E, p_is_machine ds h Q E → dFn 5 b_is_machine ds h Q E := by
  intro ds h Q E q
  unfold p_is_machine at q
  split at q
  · obtain ⟨k, q⟩ := q
    unfold b_is_machine
    rename_i d
    walk_at "st"
    simp only [tyName_eq k.kn, ty_tuple]
    cases d with
    | tup ds =>
      walk_at "st"
      obtain ⟨sz, km⟩ := k.tup
      by_cases hl : ds.length = 3
      · match ds, hl with
        | [w, pl, dd], _ =>
          simp only [setsD]
          walk_at "st"
          refine ⟨(km w (by simp)).kn, iteB_of (fun c1 => ?_) fun c1 => ⟨(km pl (by simp)).kn, iteB_of (fun c2 => ?_) fun c2 => ?_⟩⟩
          · simp only [Bool.not_eq_true'] at c1
            cases w <;> first | exact wk_of q | skip
            cases pl <;> first | exact wk_of q | skip
            cases dd <;> first | exact wk_of q | skip
            simp only [isMach, c1, Bool.false_and] at q
            exact wk_of q
          · simp only [Bool.not_eq_true'] at c2
            cases w <;> first | exact wk_of q | skip
            cases pl <;> first | exact wk_of q | skip
            cases dd <;> first | exact wk_of q | skip
            simp only [isMach, c2, Bool.false_and, Bool.and_false] at q
            exact wk_of q
          · simp only [Bool.not_eq_false'] at c1 c2
            rw [tyName_eq (km dd (by simp)).kn]
            cases w with
            | int w =>
              cases pl with
              | int pl =>
                cases dd with
                | tup dl =>
                  walk_at "st"
                  simp only [isMach, c1, c2, Bool.true_and] at q
                  obtain ⟨sz2, km2⟩ := (km (.tup dl) (by simp)).tup
                  have e1 : decide (1 ≤ (dl.length : Int)) = decide (1 ≤ dl.length) := by congr 1; simp only [eq_iff_iff]; omega
                  have e6 : decide ((dl.length : Int) ≤ 6) = decide (dl.length ≤ 6) := by congr 1; simp only [eq_iff_iff]; omega
                  rw [e1, e6]
                  refine iteB_of (fun c3 => iteB_of (fun c4 => ?_) fun c4 => ?_) fun c3 => ?_
                  · simp only [Bool.not_eq_true'] at c4
                    simp only [c3, c4, Bool.true_and, Bool.false_and] at q
                    exact wk_of q
                  · simp only [Bool.not_eq_false'] at c4
                    refine comp_map (fun x => .bl (isDeed w pl x)) (by trivial) sz2 (fun x hx K hK => ?_) ?_
                    · walk_at "st"; exact ⟨km2 x hx, hK⟩
                    · simp only [c3, c4, Bool.true_and] at q
                      exact all_map (wk_of q)
                  · simp only [c3, Bool.false_and] at q
                    exact wk_of q
                | _ => exact wk_of q
              | _ => cases c2
            | _ => cases c1
      · refine iteB_of (fun c => ?_) fun c => ?_
        · have e : isMach (.tup ds) = false := by
            unfold isMach
            split
            · rename_i e; cases e; exact absurd rfl hl
            · rfl
          rw [e] at q
          exact wk_of q
        · simp at c
          exact absurd (by omega) hl
    | _ => exact wk_of q
  · exact q.elim
/-! ### heaps that grow -/
def Sub (h0 h : DH) : Prop := ∀ a o, h0 a = some o → h a = some o
theorem Sub.refl {h : DH} : Sub h h := fun _ _ e => e
theorem Sub.trans {h h1 h2 : DH} (a : Sub h h1) (b : Sub h1 h2) : Sub h h2 := fun x o e => b x o (a x o e)
theorem Sub.up {h0 h : DH} {p : Addr} {x : DO} (s : Sub h0 h) (n : h p = none) : Sub h0 (up h p x) := fun a o e => by
  have e1 := s a o e
  have ne : a ≠ p := fun z => by rw [z, n] at e1; cases e1
  rw [up_ne ne]; exact e1
theorem wk_s {Q : DK} {d : D} {h h' : DH} (s : Sub h' h) (q : Q d h') : wk Q d h := wk_sub s q
theorem ne_of_up {h : DH} {a p : Addr} {o : DO} (e : h a = some o) (n : h p = none) : a ≠ p := fun z => by rw [z, n] at e; cases e
theorem up_up {h : DH} {p : Addr} {x y : DO} : up (up h p x) p y = up h p y := by
  funext b
  unfold up
  split <;> rfl
/-! ### the pen -/
abbrev BIG : Nat := 4294967296
/-- a pen at p: cells, how many were drawn (at most n), what is left of the last one -/
def PenAt (h : DH) (p c : Addr) (n : Nat) : Prop := ∃ (m s : Int) (cells : List Int), h p = some (.lst [.ref c, .int m, .int s]) ∧ h c = some (.lst (cells.map .int)) ∧ c ≠ p ∧ 0 ≤ m ∧ m ≤ n
/-- all but the pen stays -/
def But (p : Addr) (h h' : DH) : Prop := ∀ a, a ≠ p → h' a = h a
theorem But.refl {p : Addr} {h : DH} : But p h h := fun _ _ => rfl
theorem But.trans {p : Addr} {h h1 h2 : DH} (a : But p h h1) (b : But p h1 h2) : But p h h2 := fun x n => (b x n).trans (a x n)
theorem But.up {p : Addr} {h : DH} {o : DO} : But p h (up h p o) := fun _ n => up_ne n
theorem PenAt.mono {h : DH} {p cc : Addr} {n m : Nat} (a : PenAt h p cc n) (l : n ≤ m) : PenAt h p cc m := by
  obtain ⟨i, s, cells, a1, a2, a3, a4, a5⟩ := a
  exact ⟨i, s, cells, a1, a2, a3, a4, by omega⟩
theorem PenAt.sub {h h' : DH} {p cc : Addr} {n : Nat} (a : PenAt h p cc n) (s : Sub h h') : PenAt h' p cc n := by
  obtain ⟨i, z, cells, a1, a2, a3, a4, a5⟩ := a
  exact ⟨i, z, cells, s _ _ a1, s _ _ a2, a3, a4, a5⟩
theorem PenAt.some {h : DH} {p cc : Addr} {n : Nat} (a : PenAt h p cc n) : ∃ ds, h p = some (.lst ds) := by
  obtain ⟨i, s, cells, a1, _⟩ := a
  exact ⟨_, a1⟩
/-- what stood stays, but for the pen -/
def Ext (p : Addr) (h h' : DH) : Prop := ∀ b o, b ≠ p → h b = some o → h' b = some o
theorem Ext.refl {p : Addr} {h : DH} : Ext p h h := fun _ _ _ e => e
theorem Ext.trans {p : Addr} {h h1 h2 : DH} (a : Ext p h h1) (b : Ext p h1 h2) : Ext p h h2 := fun x o n e => b x o n (a x o n e)
theorem But.ext {p : Addr} {h h' : DH} (b : But p h h') : Ext p h h' := fun x o n e => by rw [b x n]; exact e
theorem Sub.ext {p : Addr} {h h' : DH} (b : Sub h h') : Ext p h h' := fun x o _ e => b x o e
theorem Ext.new {p a : Addr} {h h' : DH} {o : DO} (x : Ext p h h') (n : h a = none) : Ext p h (up h' a o) := fun b o ne e => by
  rw [up_ne (ne_of_up e n)]; exact x b o ne e
/-- the heap ahead with the pen of now -/
theorem pen_back {h h' : DH} {p cc : Addr} {n m : Nat} (a : PenAt h p cc n) (b : PenAt h' p cc m) (x : Ext p h h') : ∃ hF, PenAt hF p cc m ∧ But p h hF ∧ Sub hF h' := by
  obtain ⟨i, s, cells, a1, a2, a3, a4, a5⟩ := a
  obtain ⟨j, t, cells', b1, b2, b3, b4, b5⟩ := b
  refine ⟨up h p (.lst [.ref cc, .int j, .int t]), ⟨j, t, cells, up_same, by rw [up_ne a3]; exact a2, a3, b4, b5⟩, But.up, fun y o e => ?_⟩
  by_cases hy : y = p
  · subst hy; rw [up_same] at e; cases e; exact b1
  · rw [up_ne hy] at e; exact x y o hy e
def p__law_spread : DSp
  | [.int _, .int m], h, Q, _ => 0 ≤ m ∧ m ≤ BIG ∧ ∀ r : Int, Q (.int r) h
  | _, _, _, _ => False
def p__law_take : DSp
  | [.ref p, .int many], h, Q, _ => ∃ (n : Nat) (cc : Addr), PenAt h p cc n ∧ n < BIG ∧ 0 < many ∧ many < 2 ^ 100 ∧ ∀ (r : Int) (h' : DH), 0 ≤ r → r < many → PenAt h' p cc (n + 1) → But p h h' → Q (.int r) h'
  | _, _, _, _ => False
/-! slots of _law_spread: 0 cell, 1 at, 2 primes, 3 one, 4 two, 5 three -/
def b__law_spread (E : DXE) : DTS :=
    (dSeq (dIf (dB (dBin rGeI (dVar 0) (dBin rPowI (dC (.int 10)) (dC (.int 18))))) (dRet (dVar 0)) dNext)
    (dSeq (dAsg 2 (dNewV (dLst (dCons (dC (.int 2147483629)) (dCons (dC (.int 2147483587)) (dCons (dC (.int 2147483579)) (dCons (dC (.int 2147483563)) (dCons (dC (.int 2147483549)) (dCons (dC (.int 2147483543)) (dCons (dC (.int 2147483497)) (dCons (dC (.int 2147483489)) dNil)))))))))))
    (dSeq (dAsg 2 (dNewV (dCatE (dVar 2) (dLst (dCons (dC (.int 2147483477)) (dCons (dC (.int 2147483423)) (dCons (dC (.int 2147483399)) (dCons (dC (.int 2147483353)) (dCons (dC (.int 2147483323)) dNil)))))))))
    (dSeq (dAsg 3 (dBin rModI (dBin rPowI (dBin rAddD (dBin rAddD (dBin rMulD (dBin rModI (dVar 0) (dC (.int 1000000007))) (dBin rAddD (dBin rMulD (dC (.int 2)) (dVar 1)) (dC (.int 69069)))) (dBin rMulD (dVar 1) (dC (.int 40503)))) (dC (.int 977))) (dC (.int 3))) (dBin rIxE (dVar 2) (dBin rModI (dVar 1) (dC (.int 13))))))
    (dSeq (dAsg 4 (dBin rModI (dBin rPowI (dBin rAddD (dBin rAddD (dBin rMulD (dVar 3) (dBin rAddD (dVar 1) (dC (.int 3)))) (dBin rModI (dVar 0) (dC (.int 65537)))) (dC (.int 5))) (dC (.int 5))) (dBin rIxE (dVar 2) (dBin rModI (dBin rAddD (dVar 1) (dC (.int 5))) (dC (.int 13))))))
    (dSeq (dAsg 5 (dBin rModI (dBin rPowI (dBin rAddD (dBin rAddD (dVar 4) (dBin rModI (dVar 3) (dC (.int 1009)))) (dVar 1)) (dC (.int 3))) (dBin rIxE (dVar 2) (dBin rModI (dBin rAddD (dVar 1) (dC (.int 7))) (dC (.int 13))))))
    (dRet (dBin rAddD (dBin rMulD (dBin rAddD (dBin rMulD (dVar 3) (dC (.int 2147483647))) (dVar 4)) (dC (.int 2147483647))) (dVar 5)))))))))
/-! slots of _law_take: 0 pen, 1 many, 2 at, 3 cell, 4 found -/
def b__law_take (E : DXE) : DTS :=
    (dSeq (dIf (dB (dBin rLtI (dBin rIxE (dVar 0) (dC (.int 2))) (dVar 1))) (dSeq (dAsg 2 (dBin rIxE (dVar 0) (dC (.int 1))))
    (dSeq (dAsg 3 (dC (.int 0)))
    (dSeq (dIf (dB (dBin rLtI (dVar 2) (dCB rLenE (dCons (dBin rIxE (dVar 0) (dC (.int 0))) dNil)))) (dAsg 3 (dBin rIxE (dBin rIxE (dVar 0) (dC (.int 0))) (dVar 2))) (dIf (dB (dBin rGtI (dCB rLenE (dCons (dBin rIxE (dVar 0) (dC (.int 0))) dNil)) (dC (.int 0)))) (dAsg 3 (dBin rModI (dBin rIxE (dBin rIxE (dVar 0) (dC (.int 0))) (dBin rModI (dBin rAddD (dBin rMulD (dVar 2) (dC (.int 5))) (dC (.int 3))) (dCB rLenE (dCons (dBin rIxE (dVar 0) (dC (.int 0))) dNil)))) (dBin rAddD (dBin rPowI (dC (.int 10)) (dC (.int 17))) (dVar 2)))) dNext))
    (dSeq (dSetIx rSetIxE (dBin rAddD (dVar 2) (dC (.int 1))) (dVar 0) (dC (.int 1)))
    (dSetIx rSetIxE (dCall p__law_spread 2 E (dCons (dVar 3) (dCons (dVar 2) dNil))) (dVar 0) (dC (.int 2))))))) dNext)
    (dSeq (dAsg 4 (dBin rModI (dBin rIxE (dVar 0) (dC (.int 2))) (dVar 1)))
    (dSeq (dSetIx rSetIxE (dBin rDivI (dBin rIxE (dVar 0) (dC (.int 2))) (dVar 1)) (dVar 0) (dC (.int 2)))
    (dRet (dVar 4)))))
theorem mulOk {i j : Int} (hi : i.natAbs < 2 ^ 200) (hj : j.natAbs < 2 ^ 200) : CMulW i j := wide_mul hi hj (by decide) (by decide) (by decide)
theorem mulB {i j : Int} (h1 : -(10 ^ 30) ≤ i) (h2 : i ≤ 10 ^ 30) (h3 : -(10 ^ 30) ≤ j) (h4 : j ≤ 10 ^ 30) : CMulW i j := mulOk (by omega) (by omega)
theorem primes_at {l : List Int} {i : Int} (h0 : 0 ≤ i) (h1 : i < l.length) (hl : ∀ x ∈ l, 0 < x ∧ x < 2 ^ 31) : ∃ q : Int, atI (l.map D.int) i = some (.int q) ∧ 0 < q ∧ q < 2 ^ 31 := by
  obtain ⟨j, rfl⟩ : ∃ j : Nat, i = j := ⟨i.toNat, by omega⟩
  have hj : j < l.length := by omega
  refine ⟨l[j], ?_, hl _ (List.getElem_mem ..)⟩
  exact atI_nat (by simp [hj])
theorem pure__law_spread : ∀ ds h Q E, p__law_spread ds h Q E → dFn 6 b__law_spread ds h Q E := by
  intro ds h Q E q
  unfold p__law_spread at q
  split at q
  · obtain ⟨h0, h1, q⟩ := q
    rename_i cell m
    unfold b__law_spread
    walk_at "st"
    refine ⟨by unfold CPow; decide, iteB_of (fun c => wk_of (q _)) fun c => ?_⟩
    refine ⟨by decide, by decide, by decide, ?_⟩
    have hb : (BIG : Int) = 4294967296 := rfl
    rw [hb] at h1
    have pr : ∀ i : Int, ∃ q : Int, atI [D.int 2147483629, .int 2147483587, .int 2147483579, .int 2147483563, .int 2147483549, .int 2147483543, .int 2147483497, .int 2147483489, .int 2147483477, .int 2147483423, .int 2147483399, .int 2147483353, .int 2147483323] (i % 13) = some (.int q) ∧ 0 < q ∧ q < 2 ^ 31 := fun i =>
      primes_at (l := [2147483629, 2147483587, 2147483579, 2147483563, 2147483549, 2147483543, 2147483497, 2147483489, 2147483477, 2147483423, 2147483399, 2147483353, 2147483323]) (by omega) (by simp; omega) (by decide)
    obtain ⟨q1, e1, a1, b1⟩ := pr m
    obtain ⟨q2, e2, a2, b2⟩ := pr (m + 5)
    obtain ⟨q3, e3, a3, b3⟩ := pr (m + 7)
    simp only [e1, e2, e3, optAt_some, asI_int]
    have u1 : 0 ≤ cell % 1000000007 := by omega
    have u2 : cell % 1000000007 ≤ 1000000006 := by omega
    generalize cell % 1000000007 = u at *
    have w1 : 0 ≤ u * (2 * m + 69069) := Int.mul_nonneg u1 (by omega)
    have w2 : u * (2 * m + 69069) ≤ 1000000006 * 8590003661 := Int.mul_le_mul u2 (by omega) (by omega) (by decide)
    refine ⟨by decide, mulB (by omega) (by omega) (by omega) (by omega), mulB (by omega) (by omega) (by omega) (by omega), mulB (by omega) (by omega) (by omega) (by omega), ⟨by decide, by decide, by omega⟩, by decide, a1, ?_⟩
    generalize u * (2 * m + 69069) = uv at *
    have o1 : 0 ≤ (uv + m * 40503 + 977) ^ Int.toNat 3 % q1 := Int.emod_nonneg _ (by omega)
    have o2 : (uv + m * 40503 + 977) ^ Int.toNat 3 % q1 < 2 ^ 31 := Int.lt_trans (Int.emod_lt_of_pos _ a1) b1
    generalize (uv + m * 40503 + 977) ^ Int.toNat 3 % q1 = one at *
    have w3 : 0 ≤ one * (m + 3) := Int.mul_nonneg o1 (by omega)
    have w4 : one * (m + 3) ≤ 2147483647 * 4294967299 := Int.mul_le_mul (by omega) (by omega) (by omega) (by decide)
    refine ⟨mulB (by omega) (by omega) (by omega) (by omega), by decide, ⟨by decide, by decide, by omega⟩, by decide, a2, ?_⟩
    have t1 : 0 ≤ (one * (m + 3) + cell % 65537 + 5) ^ Int.toNat 5 % q2 := Int.emod_nonneg _ (by omega)
    have t2 : (one * (m + 3) + cell % 65537 + 5) ^ Int.toNat 5 % q2 < 2 ^ 31 := Int.lt_trans (Int.emod_lt_of_pos _ a2) b2
    generalize (one * (m + 3) + cell % 65537 + 5) ^ Int.toNat 5 % q2 = two at *
    refine ⟨by decide, ⟨by decide, by decide, by omega⟩, by decide, a3, mulB (by omega) (by omega) (by omega) (by omega), mulB (by omega) (by omega) (by omega) (by omega), wk_of (q _)⟩
  · exact q.elim
theorem ix0 {a b c : D} : atI [a, b, c] 0 = some a := rfl
theorem ix1 {a b c : D} : atI [a, b, c] 1 = some b := rfl
theorem ix2 {a b c : D} : atI [a, b, c] 2 = some c := rfl
theorem len_ne {h : DH} {a : Addr} {ds : List D} {Q : DK} (e : h a = some (.lst ds)) : lenOf (.ref a) h Q = Q (.int ds.length) h := by rw [len_ref, e]; rfl
theorem atI_int {l : List Int} {i : Int} (h0 : 0 ≤ i) (h1 : i < l.length) : ∃ q : Int, atI (l.map D.int) i = some (.int q) := by
  obtain ⟨j, rfl⟩ : ∃ j : Nat, i = j := ⟨i.toNat, by omega⟩
  have hj : j < l.length := by omega
  exact ⟨l[j], atI_nat (by simp [hj])⟩
theorem pure__law_take : ∀ ds h Q E, p__law_take ds h Q E → dFn 5 b__law_take ds h Q E := by
  intro ds h Q E q
  unfold p__law_take at q
  split at q
  · obtain ⟨n, c, ⟨m, s, cells, a1, a2, a3, a4, a5⟩, hn, m1, m2, q⟩ := q
    rename_i p many
    have hb : n < 4294967296 := hn
    have e17 : (10 : Int) ^ Int.toNat 17 = 100000000000000000 := by decide
    have last : ∀ (h1 : DH) (s' : Int) (m' : Int), h1 p = some (.lst [.ref c, .int m', .int s']) → But p h h1 → 0 ≤ m' → m' ≤ (n + 1 : Nat) → CDivW s' many ∧ ∃ j, ixN [D.ref c, .int m', .int s'].length 2 = some j ∧ wk Q (.int (s' % many)) (up h1 p (.lst ([D.ref c, .int m', .int s'].set j (.int (s' / many))))) := fun h1 s' m' e1 b1 c1 c2 => by
      refine ⟨wide_div m1 (b := 100) (by omega) (by decide) (by decide), 2, rfl, wk_of (q _ _ (Int.emod_nonneg _ (by omega)) (Int.emod_lt_of_pos _ m1) ⟨m', s' / many, cells, up_same, ?_, a3, c1, c2⟩ (b1.trans But.up))⟩
      rw [up_ne a3, b1 c a3]
      exact a2
    have a2' : ∀ {x : DO}, up h p x c = some (.lst (cells.map .int)) := fun {x} => by rw [up_ne a3]; exact a2
    have sp : ∀ (cell : Int) (K : DK), (∀ r : Int, K (.int r) (up h p (.lst [.ref c, .int (m + 1), .int s]))) → ∃ j, ixN [D.ref c, .int m, .int s].length 1 = some j ∧ p__law_spread [.int cell, .int m] (up h p (.lst ([D.ref c, .int m, .int s].set j (.int (m + 1))))) K (wkX E) := fun cell K hK =>
      ⟨1, rfl, a4, by show m ≤ ((BIG : Nat) : Int); omega, fun r => hK r⟩
    unfold b__law_take
    k_call_by "st" a1 a2
    refine iteB_of (fun c1 => iteB_of (fun c2 => ?_) fun c2 => iteB_of (fun c3 => ?_) fun c3 => ?_) fun c1 => ?_
    · have c2' := of_decide_eq_true c2
      obtain ⟨v, e⟩ := atI_int (l := cells) (i := m) a4 (by simpa using c2')
      rw [e]
      refine sp v _ fun r => ?_
      walk_at "st"
      exact ⟨2, rfl, m1, last _ r (m + 1) up_same (But.up.trans But.up) (by omega) (by omega)⟩
    · have c3' := of_decide_eq_true c3
      refine ⟨mulB (by omega) (by omega) (by omega) (by omega), c3', ?_⟩
      obtain ⟨v, e⟩ := atI_int (l := cells) (i := (m * 5 + 3) % (cells.map D.int).length) (Int.emod_nonneg _ (by omega)) (by have := Int.emod_lt_of_pos (m * 5 + 3) c3'; simpa using this)
      rw [e]
      refine ⟨by unfold CPow; decide, by rw [e17]; omega, ?_⟩
      refine sp (v % (10 ^ Int.toNat 17 + m)) _ fun r => ?_
      walk_at "st"
      exact ⟨2, rfl, m1, last _ r (m + 1) up_same (But.up.trans But.up) (by omega) (by omega)⟩
    · refine sp 0 _ fun r => ?_
      walk_at "st"
      exact ⟨2, rfl, m1, last _ r (m + 1) up_same (But.up.trans But.up) (by omega) (by omega)⟩
    · exact ⟨m1, last h s m a1 But.refl a4 (by omega)⟩
  · exact q.elim
/-! ### parts of lists -/
theorem cut_to {xs : List D} (k : Nat) : cutD xs none (some (k : Int)) = xs.take k := by
  unfold cutD
  rw [HT.sIx_nat, HT.sIx_none, List.drop_zero, Nat.sub_zero]
  by_cases h : k ≤ xs.length
  · rw [Nat.min_eq_left h]
  · rw [Nat.min_eq_right (by omega), List.take_of_length_le (Nat.le_refl _), List.take_of_length_le (by omega)]
theorem cut_from {xs : List D} (k : Nat) : cutD xs (some (k : Int)) none = xs.drop k := by
  unfold cutD
  rw [HT.sIx_nat, HT.sIx_none]
  by_cases h : k ≤ xs.length
  · rw [Nat.min_eq_left h, List.take_of_length_le (by rw [List.length_drop]; exact Nat.le_refl _)]
  · rw [Nat.min_eq_right (by omega), List.drop_of_length_le (Nat.le_refl _), List.drop_of_length_le (by omega), List.take_nil]
theorem cut_mid {xs : List D} (a b : Nat) : cutD xs (some (a : Int)) (some (b : Int)) = (xs.take b).drop a := by
  unfold cutD
  rw [HT.sIx_nat, HT.sIx_nat]
  rw [List.drop_take]
  by_cases h : a ≤ xs.length
  · rw [Nat.min_eq_left h]
    by_cases h2 : b ≤ xs.length
    · rw [Nat.min_eq_left h2]
    · rw [Nat.min_eq_right (by omega), List.take_of_length_le (by rw [List.length_drop]; omega), List.take_of_length_le (by rw [List.length_drop]; omega)]
  · have e : min a xs.length = xs.length := Nat.min_eq_right (by omega)
    rw [e, List.drop_of_length_le (Nat.le_refl _), List.drop_of_length_le (by omega), List.take_nil, List.take_nil]
theorem cut_init {xs : List D} {x : D} : cutD (xs ++ [x]) none (some (-1)) = xs := by
  unfold cutD
  rw [HT.sIx_none, List.drop_zero, Nat.sub_zero]
  have e : HT.sIx (xs ++ [x]).length (xs ++ [x]).length (some (-1)) = xs.length := by
    show (if (-1 : Int) < 0 then ((-1 : Int) + ((xs ++ [x]).length : Int)).toNat else min (-1 : Int).toNat (xs ++ [x]).length) = xs.length
    rw [if_pos (by decide), List.length_append, List.length_singleton]
    omega
  rw [e, List.take_left]
/-! ### numbers -/
abbrev nD (n : Nat) : D := .int (n : Int)
abbrev natsD (l : List Nat) : List D := l.map nD
theorem comp_ints {j : Nat} {own : List Nat} {te : DTE} {chk : DH → Prop} {env : DEnv} {Q : List D → DH → Prop} {h : DH} {lo : Int} {n : Nat} (F : Int → D) (hc : chk h) (hl : n ≤ sizeLine)
    (he : ∀ i : Nat, i < n → ∀ K : DK, K (F (lo + i)) h → te ((wipeD env own).set j (some (.int (lo + i)))) h K) (q : Q ((List.range n).map fun i => F (lo + (i : Nat))) h) : dComp (.name j) own dYes te chk env Q (intsD lo n) [] h := by
  refine comp_map (fun d => match d with | .int k => F k | d => d) hc (by simp [intsD]; exact hl) (fun x hx K hK => ?_) ?_
  · unfold intsD at hx
    obtain ⟨i, hi, rfl⟩ := List.mem_map.mp hx
    exact he i (List.mem_range.mp hi) K hK
  · have e : (intsD lo n).map (fun d => match d with | .int k => F k | d => d) = (List.range n).map fun i => F (lo + (i : Nat)) := by
      unfold intsD
      rw [List.map_map]
      rfl
    rw [e]; exact q
theorem intsD_nats {n : Nat} : intsD 0 n = natsD (List.range n) := by
  unfold intsD
  simp
theorem intsD_len {lo : Int} {n : Nat} : (intsD lo n).length = n := by simp [intsD]
theorem rg_ok {n : Nat} (h : n ≤ 1000000) : RgI (n : Int) := ⟨by omega, by omega⟩
/-! ### machines -/
inductive Deed where
  | turn (a : Nat) (t : List Nat) (c : Nat)
  | join (a o : Nat) (t : List (List Nat)) (c : Nat)
  | move (a o c : Nat)
  | put (a x c : Nat)
def tabOk (w : Nat) (t : List Nat) : Prop := t.length = w ∧ ∀ x ∈ t, x < w
def Deed.ok (w pl : Nat) : Deed → Prop
  | .turn a t c => a < pl ∧ tabOk w t ∧ 1 ≤ c ∧ c ≤ 3
  | .join a o t c => a < pl ∧ o < pl ∧ (t.length = w ∧ ∀ x ∈ t, tabOk w x) ∧ 1 ≤ c ∧ c ≤ 3
  | .move a o c => a < pl ∧ o < pl ∧ 1 ≤ c ∧ c ≤ 3
  | .put a x c => a < pl ∧ x < w ∧ 1 ≤ c ∧ c ≤ 3
def Deed.enc : Deed → D
  | .turn a t c => .tup [.str "turn", nD a, .tup (natsD t), nD c]
  | .join a o t c => .tup [.str "join", nD a, nD o, .tup (t.map fun x => .tup (natsD x)), nD c]
  | .move a o c => .tup [.str "move", nD a, nD o, nD c]
  | .put a x c => .tup [.str "put", nD a, nD x, nD c]
def Deed.cost : Deed → Nat
  | .turn _ _ c => c
  | .join _ _ _ c => c
  | .move _ _ c => c
  | .put _ _ c => c
def Deed.dear (c : Nat) : Deed → Deed
  | .turn a t _ => .turn a t c
  | .join a o t _ => .join a o t c
  | .move a o _ => .move a o c
  | .put a x _ => .put a x c
structure Mach where
  w : Nat
  pl : Nat
  ds : List Deed
structure Mach.ok (m : Mach) : Prop where
  w2 : 2 ≤ m.w
  w4 : m.w ≤ 4
  p1 : 1 ≤ m.pl
  p2 : m.pl ≤ 2
  d1 : 1 ≤ m.ds.length
  d6 : m.ds.length ≤ 6
  dk : ∀ d ∈ m.ds, d.ok m.w m.pl
def Mach.enc (m : Mach) : D := .tup [nD m.w, nD m.pl, .tup (m.ds.map Deed.enc)]
theorem small_size {n : Nat} (h : n ≤ 1000) : n ≤ sizeLine := Nat.le_of_lt (small1000 h)
theorem small_len {k n : Nat} (h : k ≤ 1000) : k ≤ 1000 + n := by omega
theorem Th_nats {l : List Nat} {n : Nat} (hl : l.length ≤ 1000) : Th (n + 1) (.tup (natsD l)) := .tup (small_len (by simpa using hl)) fun x hx => by
  obtain ⟨i, _, rfl⟩ := List.mem_map.mp hx
  exact .int
theorem Th_deed {w pl : Nat} {d : Deed} {n : Nat} (k : d.ok w pl) (hw : w ≤ 1000) : Th (n + 3) d.enc := by
  cases d with
  | turn a t c =>
    refine .tup (small_len (by simp)) fun x hx => ?_
    simp at hx
    rcases hx with rfl | rfl | rfl | rfl
    · exact .str (by decide +kernel) (small_len (by decide +kernel))
    · exact .int
    · exact Th_nats (by rw [k.2.1.1]; exact hw)
    · exact .int
  | join a o t c =>
    refine .tup (small_len (by simp)) fun x hx => ?_
    simp at hx
    rcases hx with rfl | rfl | rfl | rfl | rfl
    · exact .str (by decide +kernel) (small_len (by decide +kernel))
    · exact .int
    · exact .int
    · refine .tup (small_len (by simpa using (by rw [k.2.2.1.1]; exact hw))) fun x hx => ?_
      obtain ⟨y, hy, rfl⟩ := List.mem_map.mp hx
      exact Th_nats (by rw [(k.2.2.1.2 y hy).1]; exact hw)
    · exact .int
  | move a o c =>
    refine .tup (small_len (by simp)) fun x hx => ?_
    simp at hx
    rcases hx with rfl | rfl | rfl | rfl
    · exact .str (by decide +kernel) (small_len (by decide +kernel))
    · exact .int
    · exact .int
    · exact .int
  | put a o c =>
    refine .tup (small_len (by simp)) fun x hx => ?_
    simp at hx
    rcases hx with rfl | rfl | rfl | rfl
    · exact .str (by decide +kernel) (small_len (by decide +kernel))
    · exact .int
    · exact .int
    · exact .int
theorem T_deed {w pl : Nat} {d : Deed} (k : d.ok w pl) (hw : w ≤ 1000) : T d.enc := Th_deed k hw
theorem T_mach {m : Mach} (k : m.ok) : T m.enc := by
  have z : Th 5 m.enc := by
    refine .tup (small_len (by simp)) fun x hx => ?_
    simp at hx
    rcases hx with rfl | rfl | rfl
    · exact .int
    · exact .int
    · refine .tup (small_len (by have := k.d6; simp; omega)) fun x hx => ?_
      obtain ⟨d, hd, rfl⟩ := List.mem_map.mp hx
      exact Th_deed (k.dk d hd) (by have := k.w4; omega)
  exact z.mono (by decide)
theorem Deed.dear_ok {w pl c : Nat} {d : Deed} (k : d.ok w pl) (h1 : 1 ≤ c) (h3 : c ≤ 3) : (d.dear c).ok w pl := by
  cases d with
  | turn a t c' => exact ⟨k.1, k.2.1, h1, h3⟩
  | join a o t c' => exact ⟨k.1, k.2.1, k.2.2.1, h1, h3⟩
  | move a o c' => exact ⟨k.1, k.2.1, h1, h3⟩
  | put a x c' => exact ⟨k.1, k.2.1, h1, h3⟩
theorem Deed.cost_ok {w pl : Nat} {d : Deed} (k : d.ok w pl) : 1 ≤ d.cost ∧ d.cost ≤ 3 := by
  cases d with
  | turn a t c' => exact k.2.2
  | join a o t c' => exact k.2.2.2
  | move a o c' => exact k.2.2
  | put a x c' => exact k.2.2
/-- a deed's parts: all but the last, the last -/
theorem Deed.enc_parts (d : Deed) : ∃ l, d.enc = .tup (l ++ [nD d.cost]) ∧ (∀ c, (d.dear c).enc = .tup (l ++ [nD c])) ∧ l.length ≤ 4 := by
  cases d with
  | turn a t c => exact ⟨[.str "turn", nD a, .tup (natsD t)], rfl, fun _ => rfl, by simp⟩
  | join a o t c => exact ⟨[.str "join", nD a, nD o, .tup (t.map fun x => .tup (natsD x))], rfl, fun _ => rfl, by simp⟩
  | move a o c => exact ⟨[.str "move", nD a, nD o], rfl, fun _ => rfl, by simp⟩
  | put a o c => exact ⟨[.str "put", nD a, nD o], rfl, fun _ => rfl, by simp⟩
/-! ### the law's draws of machines -/
def p__law_anew : DSp
  | [.ref p], h, Q, _ => ∃ (n : Nat) (cc : Addr), PenAt h p cc n ∧ ∀ h', PenAt h' p cc n → But p h h' → Q (.ref p) h'
  | _, _, _, _ => False
def p__law_tab : DSp
  | [.ref p, .int w], h, Q, _ => ∃ (n k : Nat) (cc : Addr), w = k ∧ 2 ≤ k ∧ k ≤ 4 ∧ PenAt h p cc n ∧ n + 10 ≤ BIG ∧ ∀ (t : List Nat) (h' : DH), tabOk k t → PenAt h' p cc (n + 10) → But p h h' → Q (.tup (natsD t)) h'
  | _, _, _, _ => False
def p__law_deed : DSp
  | [.ref p, .int w, .int l], h, Q, _ => ∃ (n k j : Nat) (cc : Addr), w = k ∧ 2 ≤ k ∧ k ≤ 4 ∧ l = j ∧ 1 ≤ j ∧ j ≤ 2 ∧ PenAt h p cc n ∧ n + 100 ≤ BIG ∧ ∀ (d : Deed) (h' : DH), d.ok k j → PenAt h' p cc (n + 100) → But p h h' → Q d.enc h'
  | _, _, _, _ => False
/-- words, places, deeds: at most -/
def p__law_machine : DSp
  | [.ref p, .int w, .int l, .int most], h, Q, _ => ∃ (n : Nat) (cc : Addr), 2 ≤ w ∧ w ≤ 4 ∧ 1 ≤ l ∧ l ≤ 2 ∧ 1 ≤ most ∧ most ≤ 6 ∧ PenAt h p cc n ∧ n + 1000 ≤ BIG ∧ ∀ (m : Mach) (h' : DH), m.ok → (m.w : Int) ≤ w → (m.pl : Int) ≤ l → (m.ds.length : Int) ≤ most → PenAt h' p cc (n + 1000) → But p h h' → Q m.enc h'
  | _, _, _, _ => False
/-! slots of _law_anew: 0 pen -/
def b__law_anew (E : DXE) : DTS :=
    (dSeq (dSetIx rSetIxE (dC (.int 0)) (dVar 0) (dC (.int 2)))
    (dRet (dVar 0)))
/-! slots of _law_tab: 0 pen, 1 words, 2 kind, 3 word, 4 other, 5 found, 6 k -/
def b__law_tab (E : DXE) : DTS :=
    (dSeq (dAsg 2 (dCall p__law_take 2 E (dCons (dVar 0) (dCons (dC (.int 6)) dNil))))
    (dSeq (dAsg 3 (dCall p__law_take 2 E (dCons (dVar 0) (dCons (dVar 1) dNil))))
    (dSeq (dAsg 4 (dCall p__law_take 2 E (dCons (dVar 0) (dCons (dVar 1) dNil))))
    (dSeq (dIf (dB (dBin rLtI (dVar 2) (dC (.int 2)))) (dRet (dLq rTupD (dLc (dRg1 (dCons (dVar 1) dNil)) (.name 6) [6] dYes (dCall p__law_take 2 X0 (dCons (dVar 0) (dCons (dVar 1) dNil)))))) dNext)
    (dSeq (dIf (dB (dBin (rEqD' false) (dVar 2) (dC (.int 2)))) (dRet (dLq rTupD (dLc (dRg1 (dCons (dVar 1) dNil)) (.name 6) [6] dYes (dBin rModI (dBin rAddD (dBin rAddD (dVar 6) (dC (.int 1))) (dVar 3)) (dVar 1))))) dNext)
    (dSeq (dIf (dB (dBin (rEqD' false) (dVar 2) (dC (.int 3)))) (dRet (dLq rTupD (dLc (dRg1 (dCons (dVar 1) dNil)) (.name 6) [6] dYes (dIfE (dB (dBin (rEqD' false) (dVar 6) (dVar 3))) (dVar 4) (dVar 6))))) dNext)
    (dSeq (dIf (dB (dBin (rEqD' false) (dVar 2) (dC (.int 4)))) (dRet (dBin rMulD (dTup (dCons (dVar 3) dNil)) (dVar 1))) dNext)
    (dSeq (dAsg 5 (dNew (dLRg1 (dVar 1))))
    (dSeq (dSetIx rSetIxE (dVar 4) (dVar 5) (dVar 3))
    (dSeq (dSetIx rSetIxE (dVar 3) (dVar 5) (dVar 4))
    (dRet (dCB rTupleD (dCons (dVar 5) dNil)))))))))))))
/-! slots of _law_deed: 0 pen, 1 words, 2 places, 3 kind, 4 price, 5 at, 6 other, 7 k -/
def b__law_deed (E : DXE) : DTS :=
    (dSeq (dAsg 3 (dCall p__law_take 2 E (dCons (dVar 0) (dCons (dC (.int 8)) dNil))))
    (dSeq (dAsg 4 (dBin rAddD (dC (.int 1)) (dCall p__law_take 2 E (dCons (dVar 0) (dCons (dC (.int 3)) dNil)))))
    (dSeq (dAsg 5 (dCall p__law_take 2 E (dCons (dVar 0) (dCons (dVar 2) dNil))))
    (dSeq (dAsg 6 (dCall p__law_take 2 E (dCons (dVar 0) (dCons (dVar 2) dNil))))
    (dSeq (dIf (dB (dBin rLtI (dVar 3) (dC (.int 3)))) (dRet (dTup (dCons (dC (.str "turn")) (dCons (dVar 5) (dCons (dCall p__law_tab 2 E (dCons (dVar 0) (dCons (dVar 1) dNil))) (dCons (dVar 4) dNil)))))) dNext)
    (dSeq (dIf (dB (dBin rLtI (dVar 3) (dC (.int 5)))) (dRet (dTup (dCons (dC (.str "move")) (dCons (dVar 5) (dCons (dIfE (dB (dBin (rEqD' false) (dVar 3) (dC (.int 3)))) (dBin rModI (dBin rAddD (dVar 5) (dC (.int 1))) (dVar 2)) (dVar 6)) (dCons (dVar 4) dNil)))))) dNext)
    (dSeq (dIf (dB (dBin (rEqD' false) (dVar 3) (dC (.int 5)))) (dRet (dTup (dCons (dC (.str "put")) (dCons (dVar 5) (dCons (dCall p__law_take 2 E (dCons (dVar 0) (dCons (dVar 1) dNil))) (dCons (dVar 4) dNil)))))) dNext)
    (dRet (dTup (dCons (dC (.str "join")) (dCons (dVar 5) (dCons (dVar 6) (dCons (dLq rTupD (dLc (dRg1 (dCons (dVar 1) dNil)) (.name 7) [7] dYes (dCall p__law_tab 2 X0 (dCons (dVar 0) (dCons (dVar 1) dNil))))) (dCons (dVar 4) dNil))))))))))))))
/-! slots of _law_machine: 0 pen, 1 words, 2 places, 3 most, 4 deeds, 5 k, 6 again, 7 deed -/
def b__law_machine (E : DXE) : DTS :=
    (dSeq (dAsg 1 (dBin rAddD (dC (.int 2)) (dCall p__law_take 2 E (dCons (dVar 0) (dCons (dBin rSubI (dVar 1) (dC (.int 1))) dNil)))))
    (dSeq (dAsg 2 (dBin rAddD (dC (.int 1)) (dCall p__law_take 2 E (dCons (dVar 0) (dCons (dVar 2) dNil)))))
    (dSeq (dAsg 4 (dNew (dLst dNil)))
    (dSeq (dFor (dRg1 (dCons (dBin rAddD (dC (.int 1)) (dCall p__law_take 2 E (dCons (dVar 0) (dCons (dVar 3) dNil)))) dNil)) (.name 5) (dSeq (dAsg 6 (dCall p__law_take 2 E (dCons (dVar 0) (dCons (dC (.int 5)) dNil))))
    (dSeq (dAsg 7 (dCall p__law_deed 3 E (dCons (dVar 0) (dCons (dVar 1) (dCons (dVar 2) dNil)))))
    (dSeq (dIf (dAnd (dB (dBin (rEqD' false) (dVar 6) (dC (.int 0)))) (dB (dBin (rEqD' true) (dVar 4) (dNewV (dLst dNil))))) (dAsg 7 (dBin rAddD (dSl (dBin rIxE (dVar 4) (dCall p__law_take 2 E (dCons (dVar 0) (dCons (dCB rLenE (dCons (dVar 4) dNil)) dNil)))) dNoPart (dPart (dUn rNegI (dC (.int 1))))) (dTup (dCons (dBin rIxE (dVar 7) (dUn rNegI (dC (.int 1)))) dNil)))) dNext)
    (dDrop (dMeth rAppD (dVar 4) (dCons (dVar 7) dNil)))))))
    (dRet (dTup (dCons (dVar 1) (dCons (dVar 2) (dCons (dCB rTupleD (dCons (dVar 4) dNil)) dNil)))))))))
theorem pure__law_anew : ∀ ds h Q E, p__law_anew ds h Q E → dFn 1 b__law_anew ds h Q E := by
  intro ds h Q E q
  unfold p__law_anew at q
  split at q
  · obtain ⟨n, c, ⟨m, s, cells, a1, a2, a3, a4, a5⟩, q⟩ := q
    rename_i p
    unfold b__law_anew
    k_call_by "st" a1
    refine ⟨2, rfl, wk_of (q _ ⟨m, 0, cells, up_same, ?_, a3, a4, a5⟩ But.up)⟩
    rw [up_ne a3]; exact a2
  · exact q.elim
/-- a call of the pen -/
theorem take_call {p cc : Addr} {n : Nat} {many : Nat} {h : DH} {Q : DK} {E : DX} (hp : PenAt h p cc n) (hn : n < BIG) (h0 : 0 < many) (h1 : many < 2 ^ 100) (q : ∀ (r : Nat) (h' : DH), r < many → PenAt h' p cc (n + 1) → But p h h' → Q (nD r) h') : p__law_take [.ref p, .int (many : Int)] h Q E := by
  refine ⟨n, cc, hp, hn, by omega, by omega, fun r h' r0 r1 a b => ?_⟩
  obtain ⟨k, rfl⟩ : ∃ k : Nat, r = k := ⟨r.toNat, by omega⟩
  exact q k h' (by omega) a b
/-- a comprehension whose things are drawn, each by at most c draws -/
theorem comp_draw {α : Type} {enc : α → D} {P : α → Prop} {p cc : Addr} {n c : Nat} {h : DH} {env : DEnv} {own : List Nat} {Q : List D → DH → Prop} {g : Tgt} {te : DTE} {items : List D} (hp : PenAt h p cc n) (hn : n + c * items.length ≤ BIG) (hs : items.length ≤ sizeLine)
    (he : ∀ x ∈ items, ∀ (h' : DH) (m : Nat) (K : DK), PenAt h' p cc m → m + c ≤ BIG → But p h h' → (∀ (y : α) (h2 : DH), P y → PenAt h2 p cc (m + c) → But p h' h2 → K (enc y) h2) → dTg g x (wipeD env own) fun env' => te env' h' K)
    (q : ∀ (ys : List α) (h' : DH), ys.length = items.length → (∀ y ∈ ys, P y) → PenAt h' p cc (n + c * items.length) → But p h h' → Q (ys.map enc) h') : dComp g own dYes te (fun _ => True) env Q items [] h := by
  refine comp_inv (fun r acc h' => ∃ ys : List α, acc = ys.map enc ∧ (∀ x ∈ ys, P x) ∧ ys.length + r.length = items.length ∧ PenAt h' p cc (n + c * ys.length) ∧ But p h h' ∧ ∀ x ∈ r, x ∈ items) (fun x r K hK acc h' hI => ?_) (fun acc h' hI => ?_) _ _ _ ⟨[], rfl, (fun _ z => by cases z), by simp, by simpa using hp, But.refl, fun _ z => z⟩
  · obtain ⟨t, rfl, ht, hl, hp', hb, hm⟩ := hI
    simp only [List.length_cons] at hl
    have hc : n + c * t.length + c ≤ BIG := by
      have : c * (t.length + 1) ≤ c * items.length := Nat.mul_le_mul_left _ (by omega)
      rw [Nat.mul_add, Nat.mul_one] at this
      omega
    refine ⟨trivial, he x (hm x (List.mem_cons_self ..)) h' _ (fun y h2 => (t.map enc).length < sizeLine ∧ K (t.map enc ++ [y]) h2) hp' hc hb fun y h2 hy a b => ⟨?_, hK _ _ ⟨t ++ [y], by simp, fun z hz => ?_, by simp; omega, ?_, hb.trans b, fun z hz => hm z (List.mem_cons_of_mem _ hz)⟩⟩⟩
    · simp; omega
    · rcases List.mem_append.mp hz with z | z
      · exact ht _ z
      · simp at z; rw [z]; exact hy
    · rw [List.length_append, List.length_singleton, Nat.mul_add, Nat.mul_one, ← Nat.add_assoc]; exact a
  · obtain ⟨t, rfl, ht, hl, hp', hb, _⟩ := hI
    simp at hl
    exact ⟨trivial, q t h' hl ht (by rw [← hl]; exact hp') hb⟩
theorem pure__law_tab : ∀ ds h Q E, p__law_tab ds h Q E → dFn 7 b__law_tab ds h Q E := by
  intro ds h Q E q
  unfold p__law_tab at q
  split at q
  · obtain ⟨n, w, cc, rfl, w2, w4, hp, hn, q⟩ := q
    rename_i p
    have hb : BIG = 4294967296 := rfl
    unfold b__law_tab
    walk_at "st"
    refine take_call (many := 6) hp (by omega) (by omega) (by omega) fun kind h1 hk p1 b1 => ?_
    walk_at "st"
    refine take_call p1 (by omega) (by omega) (by omega) fun word h2 hw p2 b2 => ?_
    walk_at "st"
    refine take_call p2 (by omega) (by omega) (by omega) fun other h3 ho p3 b3 => ?_
    walk_at "st"
    have b13 := (b1.trans b2).trans b3
    have rg : RgI (w : Int) := rg_ok (by omega)
    have sz : w ≤ sizeLine := small_size (by omega)
    refine iteB_of (fun c1 => ⟨rg, ?_⟩) fun c1 => iteB_of (fun c2 => ⟨rg, ?_⟩) fun c2 => iteB_of (fun c3 => ⟨rg, ?_⟩) fun c3 => iteB_of (fun c4 => ?_) fun c4 => ?_
    · rw [Int.toNat_natCast]
      refine comp_draw (α := Nat) (enc := nD) (P := fun y => y < w) (c := 1) p3 (by rw [intsD_len]; omega) (by rw [intsD_len]; exact sz) (fun x hx h' m K pm hm bm k => ?_) fun ys h' hl hP pn bn => ?_
      · walk_at "st"
        exact take_call pm (by omega) (by omega) (by omega) fun r h2 hr a b => k r h2 hr a b
      · rw [intsD_len] at hl pn
        exact wk_of (q ys h' ⟨hl, hP⟩ (pn.mono (by omega)) (b13.trans bn))
    · rw [Int.toNat_natCast]
      refine comp_ints (fun k => .int ((k + 1 + word) % w)) trivial sz (fun i hi K hK => ?_) (wk_of ?_)
      · walk_at "st"
        exact ⟨by omega, hK⟩
      · have e : ((List.range w).map fun (i : Nat) => D.int ((0 + (i : Int) + 1 + word) % w)) = natsD ((List.range w).map fun i => (i + 1 + word) % w) := by
          unfold natsD
          rw [List.map_map]
          apply List.map_congr_left
          intro i _
          show D.int ((0 + (i : Int) + 1 + word) % w) = D.int (((i + 1 + word) % w : Nat) : Int)
          rw [Int.natCast_emod]
          congr 2
          omega
        rw [e]
        refine q _ h3 ⟨by simp, fun x hx => ?_⟩ (p3.mono (by omega)) b13
        obtain ⟨i, _, rfl⟩ := List.mem_map.mp hx
        exact Nat.mod_lt _ (by omega)
    · rw [Int.toNat_natCast]
      refine comp_ints (fun k => if k = word then .int other else .int k) trivial sz (fun i hi K hK => ?_) (wk_of ?_)
      · walk_at "st"
        refine iteB_of (fun c => ?_) fun c => ?_
        · have c' := of_decide_eq_true c
          rw [if_pos c'] at hK; exact hK
        · have c' := of_decide_eq_false c
          rw [if_neg c'] at hK; exact hK
      · have e : ((List.range w).map fun (i : Nat) => if (0 + (i : Int)) = word then D.int other else D.int (0 + (i : Int))) = natsD ((List.range w).map fun i => if i = word then other else i) := by
          unfold natsD
          rw [List.map_map]
          apply List.map_congr_left
          intro i _
          show _ = D.int ((if i = word then other else i : Nat) : Int)
          by_cases c : i = word
          · rw [if_pos (by omega), if_pos c]
          · rw [if_neg (by omega), if_neg c]; congr 1; omega
        rw [e]
        refine q _ h3 ⟨by simp, fun x hx => ?_⟩ (p3.mono (by omega)) b13
        obtain ⟨i, hi, rfl⟩ := List.mem_map.mp hx
        have := List.mem_range.mp hi
        split <;> omega
    · refine ⟨by decide, ⟨by simp, by omega, by omega, by simp⟩, wk_of ?_⟩
      have e : (List.replicate (w : Int).toNat [nD word]).flatten = natsD (List.replicate w word) := by
        rw [Int.toNat_natCast]
        simp
      rw [e]
      refine q _ h3 ⟨by simp, fun x hx => ?_⟩ (p3.mono (by omega)) b13
      have := List.eq_of_mem_replicate hx
      omega
    · refine ⟨⟨by omega, by omega, by omega, by omega, by omega⟩, fun a na => ?_⟩
      have e : intsD 0 (w : Int).toNat = natsD (List.range w) := by rw [Int.toNat_natCast]; exact intsD_nats
      rw [e]
      have i1 : ixN (natsD (List.range w)).length (word : Int) = some word := by unfold ixN; rw [if_pos (by omega), if_pos (by simp; omega)]; simp
      refine ⟨word, i1, ?_⟩
      have i2 : ixN ((natsD (List.range w)).set word (nD other)).length (other : Int) = some other := by unfold ixN; rw [if_pos (by omega), if_pos (by simp; omega)]; simp
      refine ⟨other, i2, ?_⟩
      have e2 : ((natsD (List.range w)).set word (nD other)).set other (nD word) = natsD (((List.range w).set word other).set other word) := by
        unfold natsD
        rw [List.map_set, List.map_set]
      rw [e2]
      refine wk_s (h' := h3) (fun b o z => ?_) (q _ h3 ⟨by simp, fun x hx => ?_⟩ (p3.mono (by omega)) b13)
      · have nb : b ≠ a := fun y => by rw [y, na] at z; cases z
        rw [up_ne nb, up_ne nb, up_ne nb]; exact z
      · rcases List.mem_or_eq_of_mem_set hx with z | z
        · rcases List.mem_or_eq_of_mem_set z with z | z
          · exact List.mem_range.mp z
          · omega
        · omega
  · exact q.elim
/-- a told list as plain data -/
theorem told_shaped {h : DH} {a : Addr} {ds : List D} {n : Nat} (e : h a = some (.lst ds)) (t : Th n (.frz ds)) (hn : n ≤ 64) : Dd h (.ref a) (pd (.frz ds)) ∧ SeqAt.shaped (pd (.frz ds)) = true := by
  obtain ⟨x, y⟩ := t.shaped (h := h) hn
  refine ⟨?_, y⟩
  unfold pd at x ⊢
  cases x with
  | frz l => exact .lst e l
/-- equality with an empty list -/
theorem eqV_nil {ds : List D} : eqV (.frz ds) (.frz []) = ds.isEmpty := by cases ds <;> simp [eqV, pd, pds, PyData.eqv, PyData.eqvAll]
theorem ne_nil {h : DH} {a : Addr} {ds : List D} {Q : DK} (e1 : h a = some (.lst ds)) (t : T (.frz ds)) (q : Q (.bl (!ds.isEmpty)) h) : rEqD' true (.ref a) (.frz []) h Q := by
  obtain ⟨x, y⟩ := told_shaped e1 t (by decide)
  refine ⟨_, _, x, .frz .nil, y, by decide, ?_⟩
  have z := eqV_nil (ds := ds)
  simp only [eqV, pd, pds] at z
  simpa [pd, z] using q
theorem pure__law_deed : ∀ ds h Q E, p__law_deed ds h Q E → dFn 8 b__law_deed ds h Q E := by
  intro ds h Q E q
  unfold p__law_deed at q
  split at q
  · obtain ⟨n, w, pl, cc, rfl, w2, w4, rfl, l1, l2, hp, hn, q⟩ := q
    rename_i p
    have hb : BIG = 4294967296 := rfl
    unfold b__law_deed
    walk_at "st"
    refine take_call (many := 8) hp (by omega) (by omega) (by omega) fun kind h1 hk p1 b1 => ?_
    walk_at "st"
    refine take_call (many := 3) p1 (by omega) (by omega) (by omega) fun price h2 hpr p2 b2 => ?_
    walk_at "st"
    refine take_call p2 (by omega) (by omega) (by omega) fun at_ h3 ha p3 b3 => ?_
    walk_at "st"
    refine take_call p3 (by omega) (by omega) (by omega) fun other h4 ho p4 b4 => ?_
    walk_at "st"
    have b14 := ((b1.trans b2).trans b3).trans b4
    have ec : (1 : Int) + (price : Int) = ((1 + price : Nat) : Int) := by omega
    rw [ec]
    have sz4 : 4 ≤ sizeLine := by decide
    refine iteB_of (fun c1 => ?_) fun c1 => iteB_of (fun c2 => ?_) fun c2 => iteB_of (fun c3 => ?_) fun c3 => ?_
    · refine ⟨_, w, cc, rfl, w2, w4, p4, by omega, fun t h' ht a b => ⟨by decide, wk_of (q (.turn at_ t (1 + price)) h' ⟨ha, ht, by omega, by omega⟩ (a.mono (by omega)) (b14.trans b))⟩⟩
    · refine iteB_of (fun c3 => ⟨by omega, by decide, wk_of ?_⟩) fun c3 => ⟨by decide, wk_of (q (.move at_ other (1 + price)) h4 ⟨ha, ho, by omega, by omega⟩ (p4.mono (by omega)) b14)⟩
      have e : ((at_ : Int) + 1) % (pl : Int) = (((at_ + 1) % pl : Nat) : Int) := by rw [Int.natCast_emod]; rfl
      rw [e]
      exact q (.move at_ ((at_ + 1) % pl) (1 + price)) h4 ⟨ha, Nat.mod_lt _ (by omega), by omega, by omega⟩ (p4.mono (by omega)) b14
    · refine take_call p4 (by omega) (by omega) (by omega) fun x h5 hx p5 b5 => ⟨by decide, wk_of (q (.put at_ x (1 + price)) h5 ⟨ha, hx, by omega, by omega⟩ (p5.mono (by omega)) (b14.trans b5))⟩
    · refine ⟨rg_ok (by omega), ?_⟩
      rw [Int.toNat_natCast]
      refine comp_draw (α := List Nat) (enc := fun t => .tup (natsD t)) (P := tabOk w) (c := 10) p4 (by rw [intsD_len]; omega) (by rw [intsD_len]; exact small_size (by omega)) (fun x hx h' m K pm hm bm k => ?_) fun ys h' hl hP pn bn => ?_
      · walk_at "st"
        exact ⟨m, w, cc, rfl, w2, w4, pm, by omega, fun t h2 ht a b => k t h2 ht a b⟩
      · rw [intsD_len] at hl pn
        exact ⟨by decide, wk_of (q (.join at_ other ys (1 + price)) h' ⟨ha, ho, ⟨hl, hP⟩, by omega, by omega⟩ (pn.mono (by omega)) (b14.trans bn))⟩
  · exact q.elim
theorem pure__law_machine : ∀ ds h Q E, p__law_machine ds h Q E → dFn 8 b__law_machine ds h Q E := by
  intro ds h Q E q
  unfold p__law_machine at q
  split at q
  · obtain ⟨n, cc, w2, w4, l1, l2, m1, m6, hp, hn, q⟩ := q
    rename_i p w0 l0 most0
    obtain ⟨w, rfl⟩ : ∃ k : Nat, w0 = k := ⟨w0.toNat, by omega⟩
    obtain ⟨l, rfl⟩ : ∃ k : Nat, l0 = k := ⟨l0.toNat, by omega⟩
    obtain ⟨most, rfl⟩ : ∃ k : Nat, most0 = k := ⟨most0.toNat, by omega⟩
    have hb : BIG = 4294967296 := rfl
    unfold b__law_machine
    walk_at "st"
    have e1 : ((w : Int) - 1) = ((w - 1 : Nat) : Int) := by omega
    rw [e1]
    refine take_call hp (by omega) (by omega) (by omega) fun dw h1 hk p1 b1 => ?_
    walk_at "st"
    refine take_call p1 (by omega) (by omega) (by omega) fun dl h2 hl p2 b2 => ?_
    walk_at "st"
    have e2 : (2 : Int) + (dw : Int) = ((2 + dw : Nat) : Int) := by omega
    have e3 : (1 : Int) + (dl : Int) = ((1 + dl : Nat) : Int) := by omega
    rw [e2, e3]
    refine ⟨by decide, fun a na => ?_⟩
    walk_at "st"
    have p2' : PenAt (up h2 a (.lst [])) p cc (n + 2) := p2.sub (Sub.refl.up na)
    have ap : a ≠ p := fun z => by subst z; obtain ⟨ds, e⟩ := p2.some; rw [e] at na; cases na
    refine take_call p2' (by omega) (by omega) (by omega) fun many h3 hm p3 b3 => ?_
    walk_at "st"
    have e4 : (1 : Int) + (many : Int) = ((1 + many : Nat) : Int) := by omega
    rw [e4]
    refine ⟨rg_ok (by omega), ?_⟩
    rw [Int.toNat_natCast]
    have x3 : Ext p h h3 := (b1.trans b2).ext.trans (((Sub.refl.up na).ext (p := p)).trans b3.ext)
    have ca : cc ≠ a := by
      obtain ⟨_, _, _, _, z, _⟩ := hp
      exact ne_of_up z (by rw [← b1 a ap, ← b2 a ap]; exact na)
    have an : h a = none := by rw [← b1 a ap, ← b2 a ap]; exact na
    have a3 : h3 a = some (.lst []) := by rw [b3 a ap]; exact up_same
    refine loop_inv (fun r env h' => ∃ (ds : List Deed) (x5 x6 x7 : Option D), env = [some (.ref p), some (.int ((2 + dw : Nat) : Int)), some (.int ((1 + dl : Nat) : Int)), some (.int most), some (.ref a), x5, x6, x7] ∧ h' a = some (.lst (ds.map Deed.enc)) ∧
      (∀ d ∈ ds, d.ok (2 + dw) (1 + dl)) ∧ ds.length + r.length = 1 + many ∧ PenAt h' p cc (n + 3 + 110 * ds.length) ∧ Ext p h h') (fun x r K hK env h' hI => ?_) (fun env h' hI => ?_) _ _ _ ⟨[], none, none, none, rfl, a3, (fun _ z => by cases z), by simp [intsD_len], p3, x3⟩
    · obtain ⟨ds, x5, x6, x7, rfl, ha, hd, hl, pn, xn⟩ := hI
      simp only [List.length_cons] at hl
      refine ⟨trivial, ?_⟩
      walk_at "st"
      refine take_call (many := 5) pn (by omega) (by omega) (by omega) fun again h4 hg p4 b4 => ?_
      walk_at "st"
      refine ⟨_, _, _, cc, rfl, by omega, by omega, rfl, by omega, by omega, p4, by omega, fun d h5 hdk p5 b5 => ?_⟩
      walk_at "st"
      have a5 : h5 a = some (.lst (ds.map Deed.enc)) := by rw [b5 a ap, b4 a ap]; exact ha
      have x5 : Ext p h h5 := xn.trans (b4.trans b5).ext
      have app : ∀ (d' : Deed) (h6 : DH) (k : Nat), d'.ok (2 + dw) (1 + dl) → h6 a = some (.lst (ds.map Deed.enc)) → PenAt h6 p cc k → k ≤ n + 3 + 110 * ds.length + 110 → Ext p h h6 → lstAt (h6 a) fun _ => lstAt (h6 a) fun xs => xs.length < sizeLine ∧ K [some (.ref p), some (.int ((2 + dw : Nat) : Int)), some (.int ((1 + dl : Nat) : Int)), some (.int most), some (.ref a), some x, some (nD again), some d'.enc] (up h6 a (.lst (xs ++ [d'.enc]))) := fun d' h6 k kd ea pk hk xk => by
        rw [ea]
        refine ⟨by simp; exact Nat.lt_of_lt_of_le (by omega : ds.length < 8) (by decide), hK _ _ ⟨ds ++ [d'], _, _, _, rfl, by rw [up_same]; simp, fun y hy => ?_, by simp; omega, ?_, xk.new an⟩⟩
        · rcases List.mem_append.mp hy with z | z
          · exact hd y z
          · simp at z; rw [z]; exact kd
        · obtain ⟨i, s, cells, q1, q2, q3, q4, q5⟩ := pk
          refine ⟨i, s, cells, by rw [up_ne (Ne.symm ap)]; exact q1, ?_, q3, q4, by simp; omega⟩
          rw [up_ne ca]; exact q2
      refine iteB_of (fun c1 => ⟨by decide, ?_⟩) fun c1 => app d h5 _ hdk a5 p5 (by omega) x5
      have t6 : T (.frz (ds.map Deed.enc)) := by
        refine Th.mono (n := 4) (.frz (small_len (by simp; omega)) fun y hy => ?_) (by decide)
        obtain ⟨z, hz, rfl⟩ := List.mem_map.mp hy
        exact Th_deed (hd z hz) (by omega)
      refine ne_nil a5 t6 ?_
      walk_at "st"
      refine iteB_of (fun c2 => ?_) fun c2 => app d _ _ hdk a5 p5 (by omega) x5
      rw [a5]
      walk_at "st"
      have pos : 0 < ds.length := by
        cases ds with
        | nil => simp at c2
        | cons _ _ => simp
      have el : ((ds.map Deed.enc).length : Int) = (ds.length : Nat) := by simp
      rw [el]
      refine take_call p5 (by omega) pos (by omega) fun at_ h7 hat p7 b7 => ?_
      have a7 : h7 a = some (.lst (ds.map Deed.enc)) := by rw [b7 a ap]; exact a5
      have i7 : atI (ds.map Deed.enc) (at_ : Int) = some (ds[at_]).enc := atI_nat (by simp [hat])
      obtain ⟨l7, f7, g7, n7⟩ := Deed.enc_parts ds[at_]
      obtain ⟨l8, f8, g8, n8⟩ := Deed.enc_parts d
      have i8 : atI (l8 ++ [nD d.cost]) (-1) = some (nD d.cost) := atI_last
      kpf_say a7 i7 f7 f8
      k_call_by "st" i8 cut_init
      refine ⟨by decide, ?_, ?_⟩
      · exact small_size (by simp; omega)
      · rw [← g7 d.cost]
        have z := app (ds[at_].dear d.cost) h7 _ (Deed.dear_ok (hd _ (List.getElem_mem ..)) (Deed.cost_ok hdk).1 (Deed.cost_ok hdk).2) a7 p7 (by omega) (x5.trans b7.ext)
        rw [a7] at z
        exact z
    · obtain ⟨ds, x5, x6, x7, rfl, ha, hd, hl, pn, xn⟩ := hI
      simp at hl
      refine ⟨trivial, ?_⟩
      k_call_by "st" ha
      obtain ⟨hF, f1, f2, f3⟩ := pen_back hp pn xn
      refine ⟨by decide, wk_s f3 (q ⟨2 + dw, 1 + dl, ds⟩ hF ⟨by show 2 ≤ 2 + dw; omega, by show 2 + dw ≤ 4; omega, by show 1 ≤ 1 + dl; omega, by show 1 + dl ≤ 2; omega, by show 1 ≤ ds.length; omega, by show ds.length ≤ 6; omega, hd⟩ ?_ ?_ ?_ (f1.mono (by omega)) f2)⟩
      · show ((2 + dw : Nat) : Int) ≤ w; omega
      · show ((1 + dl : Nat) : Int) ≤ l; omega
      · show (ds.length : Int) ≤ most; omega
  · exact q.elim
/-! ### what deeds do -/
def Deed.at_ : Deed → Nat
  | .turn a _ _ => a
  | .join a _ _ _ => a
  | .move a _ _ => a
  | .put a _ _ => a
/-- the word that a deed's place gets -/
def Deed.word (e : List Nat) : Deed → Nat
  | .turn a t _ => t.getD (e.getD a 0) 0
  | .join a o t _ => (t.getD (e.getD a 0) []).getD (e.getD o 0) 0
  | .move _ o _ => e.getD o 0
  | .put _ x _ => x
def Deed.after (d : Deed) (e : List Nat) : List Nat := e.set d.at_ (d.word e)
abbrev endD (e : List Nat) : D := .tup (natsD e)
def endOk (w pl : Nat) (e : List Nat) : Prop := e.length = pl ∧ ∀ x ∈ e, x < w
theorem at_nats {l : List Nat} {i : Nat} (h : i < l.length) : atI (natsD l) (i : Int) = some (nD (l.getD i 0)) := atI_nat (by
  rw [List.getElem?_map, List.getElem?_eq_getElem h]
  simp [h])
theorem getD_lt {l : List Nat} {i w : Nat} (h : i < l.length) (hl : ∀ x ∈ l, x < w) : l.getD i 0 < w := by
  simp [h]
  exact hl _ (List.getElem_mem ..)
theorem at_map {α : Type} {f : α → D} {l : List α} {i : Nat} {d : α} (h : i < l.length) : atI (l.map f) (i : Int) = some (f (l.getD i d)) := atI_nat (by
  rw [List.getElem?_map, List.getElem?_eq_getElem h]
  simp [h])
theorem getD_mem {α : Type} {l : List α} {i : Nat} {d : α} (h : i < l.length) : l.getD i d ∈ l := by
  simp [h]
theorem Deed.at_lt {w pl : Nat} {d : Deed} (k : d.ok w pl) : d.at_ < pl := by cases d <;> exact k.1
theorem Deed.word_lt {w pl : Nat} {d : Deed} {e : List Nat} (k : d.ok w pl) (he : endOk w pl e) : d.word e < w := by
  cases d with
  | turn a t c => exact getD_lt (by rw [k.2.1.1]; exact getD_lt (by rw [he.1]; exact k.1) he.2) k.2.1.2
  | join a o t c =>
    have h1 : e.getD a 0 < w := getD_lt (by rw [he.1]; exact k.1) he.2
    have h2 := k.2.2.1.2 (t.getD (e.getD a 0) []) (getD_mem (by rw [k.2.2.1.1]; exact h1))
    exact getD_lt (by rw [h2.1]; exact getD_lt (by rw [he.1]; exact k.2.1) he.2) h2.2
  | move a o c => exact getD_lt (by rw [he.1]; exact k.2.1) he.2
  | put a x c => exact k.2.1
theorem Deed.after_ok {w pl : Nat} {d : Deed} {e : List Nat} (k : d.ok w pl) (he : endOk w pl e) : endOk w pl (d.after e) := by
  refine ⟨by unfold Deed.after; rw [List.length_set]; exact he.1, fun x hx => ?_⟩
  rcases List.mem_or_eq_of_mem_set hx with z | z
  · exact he.2 x z
  · rw [z]; exact Deed.word_lt k he
/-! ### machines are machines -/
theorem isIn_nat {a b n : Nat} : isIn (a : Int) (b : Int) (nD n) = (decide (a ≤ n) && decide (n ≤ b)) := by
  show (decide ((a : Int) ≤ (n : Int)) && decide ((n : Int) ≤ (b : Int))) = _
  simp only [Int.ofNat_le]
theorem isIn_lt {w n : Nat} (hw : 0 < w) : isIn 0 ((w : Int) - 1) (nD n) = decide (n < w) := by
  show (decide ((0 : Int) ≤ (n : Int)) && decide ((n : Int) ≤ (w : Int) - 1)) = _
  rw [decide_eq_true (by omega), Bool.true_and]
  congr 1
  simp only [eq_iff_iff]
  omega
theorem isTab_nats {w : Nat} {t : List Nat} (hw : 0 < w) (k : tabOk w t) : isTab w (.tup (natsD t)) = true := by
  unfold isTab
  simp only [Bool.and_eq_true, decide_eq_true_eq, List.all_eq_true]
  refine ⟨by rw [List.length_map, k.1], fun x hx => ?_⟩
  obtain ⟨y, hy, rfl⟩ := List.mem_map.mp hx
  rw [isIn_lt hw]
  exact decide_eq_true (k.2 y hy)
theorem isDeed_enc {w pl : Nat} {d : Deed} (hw : 0 < w) (hp : 0 < pl) (k : d.ok w pl) : isDeed w pl d.enc = true := by
  have c13 : ∀ {c : Nat}, 1 ≤ c → c ≤ 3 → isIn 1 3 (nD c) = true := fun {c} h1 h3 => by
    rw [show isIn 1 3 (nD c) = (decide (1 ≤ c) && decide (c ≤ 3)) from isIn_nat (a := 1) (b := 3), decide_eq_true h1, decide_eq_true h3]; rfl
  cases d with
  | turn a t c =>
    have e1 : isS "turn" (.str "turn") = true := by decide +kernel
    simp only [Deed.enc, isDeed, isIn_lt hp, decide_eq_true k.1, lastD, c13 k.2.2.1 k.2.2.2, e1, cond_true, isTab_nats hw k.2.1, List.length_nil, decide_true, Bool.and_true]
  | join a o t c =>
    have e1 : isS "turn" (.str "join") = false := by decide +kernel
    have e2 : isS "join" (.str "join") = true := by decide +kernel
    have tt : areTabs w (.tup (t.map fun x => .tup (natsD x))) = true := by
      unfold areTabs
      simp only [Bool.and_eq_true, decide_eq_true_eq, List.all_eq_true]
      refine ⟨by rw [List.length_map, k.2.2.1.1], fun x hx => ?_⟩
      obtain ⟨y, hy, rfl⟩ := List.mem_map.mp hx
      exact isTab_nats hw (k.2.2.1.2 y hy)
    simp only [Deed.enc, isDeed, isIn_lt hp, decide_eq_true k.1, decide_eq_true k.2.1, lastD, c13 k.2.2.2.1 k.2.2.2.2, e1, e2, cond_true, cond_false, tt, List.length_nil, List.length_cons, decide_true, Bool.and_true]
  | move a o c =>
    have e1 : isS "turn" (.str "move") = false := by decide +kernel
    have e2 : isS "join" (.str "move") = false := by decide +kernel
    have e3 : isS "move" (.str "move") = true := by decide +kernel
    simp only [Deed.enc, isDeed, isIn_lt hp, decide_eq_true k.1, decide_eq_true k.2.1, lastD, c13 k.2.2.1 k.2.2.2, e1, e2, e3, cond_true, cond_false, List.length_nil, decide_true, Bool.and_true]
  | put a x c =>
    have e1 : isS "turn" (.str "put") = false := by decide +kernel
    have e2 : isS "join" (.str "put") = false := by decide +kernel
    have e3 : isS "move" (.str "put") = false := by decide +kernel
    have e4 : isS "put" (.str "put") = true := by decide +kernel
    simp only [Deed.enc, isDeed, isIn_lt hp, isIn_lt hw, decide_eq_true k.1, decide_eq_true k.2.1, lastD, c13 k.2.2.1 k.2.2.2, e1, e2, e3, e4, cond_true, cond_false, List.length_nil, decide_true, Bool.and_true]
theorem isMach_enc {m : Mach} (k : m.ok) : isMach m.enc = true := by
  have h1 := k.w2
  have h2 := k.w4
  have h3 := k.p1
  have h4 := k.p2
  have h5 := k.d1
  have h6 := k.d6
  unfold Mach.enc isMach
  simp only [Bool.and_eq_true, decide_eq_true_eq, List.all_eq_true, List.length_map]
  refine ⟨?_, ?_, h5, h6, fun x hx => ?_⟩
  · rw [show isIn 2 4 (nD m.w) = (decide (2 ≤ m.w) && decide (m.w ≤ 4)) from isIn_nat (a := 2) (b := 4), decide_eq_true h1, decide_eq_true h2]; rfl
  · rw [show isIn 1 2 (nD m.pl) = (decide (1 ≤ m.pl) && decide (m.pl ≤ 2)) from isIn_nat (a := 1) (b := 2), decide_eq_true h3, decide_eq_true h4]; rfl
  · obtain ⟨d, hd, rfl⟩ := List.mem_map.mp hx
    exact isDeed_enc (by omega) (by omega) (k.dk d hd)
/-! ### the program: rows -/
def rowOk (m : Mach) (r : List Nat) : Prop := ∀ x ∈ r, x < m.ds.length
/-! ### from data to machines -/
theorem map_dec {α : Type} {f : α → D} {P : α → Prop} : ∀ {l : List D}, (∀ x ∈ l, ∃ y, P y ∧ x = f y) → ∃ ys : List α, l = ys.map f ∧ ∀ y ∈ ys, P y
  | [], _ => ⟨[], rfl, fun _ z => by cases z⟩
  | x :: l, h => by
    obtain ⟨y, py, rfl⟩ := h x (List.mem_cons_self ..)
    obtain ⟨ys, rfl, p⟩ := map_dec (l := l) fun z hz => h z (List.mem_cons_of_mem _ hz)
    exact ⟨y :: ys, rfl, fun z hz => by
      rcases List.mem_cons.mp hz with e | e
      · rw [e]; exact py
      · exact p z e⟩
theorem isIn_dec {a b : Int} {d : D} (h : isIn a b d = true) (ha : 0 ≤ a) : ∃ n : Nat, d = nD n ∧ a ≤ (n : Int) ∧ (n : Int) ≤ b := by
  cases d with
  | int i =>
    simp only [isIn, Bool.and_eq_true, decide_eq_true_eq] at h
    obtain ⟨n, rfl⟩ : ∃ n : Nat, i = n := ⟨i.toNat, by omega⟩
    exact ⟨n, rfl, h.1, h.2⟩
  | _ => cases h
theorem isTab_dec {w : Nat} {d : D} (h : isTab w d = true) : ∃ t, tabOk w t ∧ d = .tup (natsD t) := by
  cases d with
  | tup ds =>
    simp only [isTab, Bool.and_eq_true, decide_eq_true_eq, List.all_eq_true] at h
    obtain ⟨t, rfl, ht⟩ := map_dec (f := nD) (P := fun n => n < w) (l := ds) fun x hx => by
      obtain ⟨n, rfl, _, b⟩ := isIn_dec (h.2 x hx) (by omega)
      exact ⟨n, by omega, rfl⟩
    exact ⟨t, ⟨by have := h.1; simp at this; omega, ht⟩, rfl⟩
  | _ => cases h
theorem areTabs_dec {w : Nat} {d : D} (h : areTabs w d = true) : ∃ t : List (List Nat), (t.length = w ∧ ∀ x ∈ t, tabOk w x) ∧ d = .tup (t.map fun x => .tup (natsD x)) := by
  cases d with
  | tup ds =>
    simp only [areTabs, Bool.and_eq_true, decide_eq_true_eq, List.all_eq_true] at h
    obtain ⟨t, rfl, ht⟩ := map_dec (f := fun x => D.tup (natsD x)) (P := tabOk w) (l := ds) fun x hx => isTab_dec (h.2 x hx)
    exact ⟨t, ⟨by have := h.1; simp at this; omega, ht⟩, rfl⟩
  | _ => cases h
theorem isS_dec {x : Str} {d : D} (h : isS x d = true) : d = .str x := by
  cases d with
  | str y => rw [of_decide_eq_true h]
  | _ => cases h
theorem isDeed_dec {w pl : Nat} {d : D} (h : isDeed w pl d = true) : ∃ e : Deed, e.ok w pl ∧ d = e.enc := by
  unfold isDeed at h
  split at h
  · rename_i s a x c r
    simp only [Bool.and_eq_true] at h
    obtain ⟨h1, h2, h3⟩ := h
    obtain ⟨at_, rfl, _, b1⟩ := isIn_dec h1 (by omega)
    cases ht : isS "turn" s with
    | true =>
      simp only [ht, cond_true, Bool.and_eq_true, decide_eq_true_eq] at h3
      have e := List.eq_nil_of_length_eq_zero h3.1
      subst e
      obtain ⟨t, tk, rfl⟩ := isTab_dec h3.2
      obtain ⟨cc, e, c1, c2⟩ := isIn_dec h2 (by omega)
      have e : c = nD cc := e
      subst e
      rw [isS_dec ht]
      exact ⟨.turn at_ t cc, ⟨by omega, tk, by omega, by omega⟩, rfl⟩
    | false =>
      simp only [ht, cond_false] at h3
      cases hj : isS "join" s with
      | true =>
        simp only [hj, cond_true, Bool.and_eq_true, decide_eq_true_eq] at h3
        obtain ⟨l1, l2, l3⟩ := h3
        match r, l1 with
        | [z], _ =>
          obtain ⟨o, rfl, _, o2⟩ := isIn_dec l2 (by omega)
          obtain ⟨t, tk, rfl⟩ := areTabs_dec l3
          obtain ⟨cc, e, c1, c2⟩ := isIn_dec h2 (by omega)
          have e : z = nD cc := e
          subst e
          rw [isS_dec hj]
          exact ⟨.join at_ o t cc, ⟨by omega, by omega, tk, by omega, by omega⟩, rfl⟩
      | false =>
        simp only [hj, cond_false] at h3
        cases hm : isS "move" s with
        | true =>
          simp only [hm, cond_true, Bool.and_eq_true, decide_eq_true_eq] at h3
          have e := List.eq_nil_of_length_eq_zero h3.1
          subst e
          obtain ⟨o, rfl, _, o2⟩ := isIn_dec h3.2 (by omega)
          obtain ⟨cc, e, c1, c2⟩ := isIn_dec h2 (by omega)
          have e : c = nD cc := e
          subst e
          rw [isS_dec hm]
          exact ⟨.move at_ o cc, ⟨by omega, by omega, by omega, by omega⟩, rfl⟩
        | false =>
          simp only [hm, cond_false, Bool.and_eq_true, decide_eq_true_eq] at h3
          obtain ⟨l0, l1, l2⟩ := h3
          have e := List.eq_nil_of_length_eq_zero l1
          subst e
          obtain ⟨o, rfl, _, o2⟩ := isIn_dec l2 (by omega)
          obtain ⟨cc, e, c1, c2⟩ := isIn_dec h2 (by omega)
          have e : c = nD cc := e
          subst e
          rw [isS_dec l0]
          exact ⟨.put at_ o cc, ⟨by omega, by omega, by omega, by omega⟩, rfl⟩
  · cases h
theorem isMach_dec {d : D} (h : isMach d = true) : ∃ m : Mach, m.ok ∧ d = m.enc := by
  unfold isMach at h
  split at h
  · rename_i w pl ds
    simp only [Bool.and_eq_true, decide_eq_true_eq, List.all_eq_true] at h
    obtain ⟨h1, h2, h3, h4, h5⟩ := h
    obtain ⟨w, e, a1, a2⟩ := isIn_dec h1 (by omega)
    cases e
    obtain ⟨pl, e, b1, b2⟩ := isIn_dec h2 (by omega)
    cases e
    obtain ⟨l, rfl, hl⟩ := map_dec (f := Deed.enc) (P := fun e => e.ok w pl) (l := ds) fun x hx => isDeed_dec (h5 x hx)
    rw [List.length_map] at h3 h4
    exact ⟨⟨w, pl, l⟩, ⟨by show 2 ≤ w; omega, by show w ≤ 4; omega, by show 1 ≤ pl; omega, by show pl ≤ 2; omega, h3, h4, hl⟩, rfl⟩
  · cases h
/-! ### refusals -/
abbrev Rf := Str × List (Str × Int)
def refOr (o : Option Rf) (q : Prop) (E : DX) (h : DH) : Prop := match o with
  | none => q
  | some r => E r.1 r.2 h
theorem refOr_none {q : Prop} {E : DX} {h : DH} : refOr none q E h = q := rfl
theorem refOr_some {r : Rf} {q : Prop} {E : DX} {h : DH} : refOr (some r) q E h = E r.1 r.2 h := rfl
def firstBad (n : Nat) : List D → Nat → Option Nat
  | [], _ => none
  | d :: r, j => if isIn 0 ((n : Int) - 1) d = true then firstBad n r (j + 1) else some j
def rfMachine : Rf := ("NoMachine", [])
def rfRow (i : Int) : Rf := ("NoRow", [("place", i)])
def rfLong : Rf := ("TooLong", [])
def rowL (n : Nat) (ds : List D) : Option Rf := match firstBad n ds 0 with
  | some j => some (rfRow j)
  | none => if 40 < ds.length then some rfLong else none
/-- what is refused of a row of n deeds' numbers -/
def rowRef (n : Nat) : D → Option Rf
  | .frz ds => rowL n ds
  | _ => some (rfRow 0)
def nDeeds : D → Nat
  | .tup [_, _, .tup ds] => ds.length
  | _ => 0
/-- what is refused of a machine and a row -/
def needRow (dm dr : D) : Option Rf := bif isMach dm then rowRef (nDeeds dm) dr else some rfMachine
def p_need_machine : DSp
  | [d], h, Q, E => T d ∧ (isMach d = true → Q .non h) ∧ (isMach d = false → E rfMachine.1 rfMachine.2 h)
  | _, _, _, _ => False
def p_is_number : DSp := fun ds h Q _ => ∃ (m : Mach) (d : D), ds = [m.enc, d] ∧ Kn d ∧ Q (.bl (isIn 0 ((m.ds.length : Int) - 1) d)) h
/-- anything -/
def Lv (h : DH) (x d : D) : Prop := x = d ∨ ∃ (a : Addr) (l : List D), x = .ref a ∧ h a = some (.lst l) ∧ d = .frz l
def p_need_row : DSp := fun ds h Q E => ∃ dm x dr, ds = [dm, x] ∧ Lv h x dr ∧ T dm ∧ T dr ∧ refOr (needRow dm dr) (Q .non h) E h
def p_is_word : DSp := fun ds h Q _ => ∃ (m : Mach) (d : D), ds = [m.enc, d] ∧ Kn d ∧ Q (.bl (isIn 0 ((m.w : Int) - 1) d)) h
def p_word_by : DSp := fun ds h Q _ => ∃ (w pl : Nat) (d : Deed) (e : List Nat), ds = [d.enc, endD e] ∧ d.ok w pl ∧ endOk w pl e ∧ Q (nD (d.word e)) h
def p_after : DSp := fun ds h Q _ => ∃ (w pl : Nat) (d : Deed) (e : List Nat), ds = [d.enc, endD e] ∧ d.ok w pl ∧ pl ≤ 1000 ∧ endOk w pl e ∧ Q (endD (d.after e)) h
/-! slots of need_machine: 0 machine -/
def b_need_machine (E : DXE) : DTS :=
    (dIf (dNot (dB (dCall p_is_machine 1 E (dCons (dVar 0) dNil)))) (dRaiseT "NoMachine" E) dNext)
/-! slots of is_number: 0 machine, 1 thing -/
def b_is_number (E : DXE) : DTS :=
    (dRet (dCall p_is_in 3 E (dCons (dVar 1) (dCons (dC (.int 0)) (dCons (dBin rSubI (dCB rLenE (dCons (dBin rIxE (dVar 0) (dC (.int 2))) dNil)) (dC (.int 1))) dNil)))))
/-! slots of need_row: 0 machine, 1 row, 2 place, 3 number -/
def b_need_row (E : DXE) : DTS :=
    (dSeq (dDrop (dCall p_need_machine 1 E (dCons (dVar 0) dNil)))
    (dSeq (dIf (dNot (dB (dIsi "list" (dVar 1)))) (dRaiseI "NoRow" "place" (dC (.int 0)) E) dNext)
    (dSeq (dFor (dEnum (dCons (dVar 1) dNil)) (.tup [2, 3]) (dIf (dNot (dB (dCall p_is_number 2 E (dCons (dVar 0) (dCons (dVar 3) dNil))))) (dRaiseI "NoRow" "place" (dVar 2) E) dNext))
    (dIf (dB (dBin rGtI (dCB rLenE (dCons (dVar 1) dNil)) (dC (.int 40)))) (dRaiseT "TooLong" E) dNext))))
/-! slots of is_word: 0 machine, 1 thing -/
def b_is_word (E : DXE) : DTS :=
    (dRet (dCall p_is_in 3 E (dCons (dVar 1) (dCons (dC (.int 0)) (dCons (dBin rSubI (dBin rIxE (dVar 0) (dC (.int 0))) (dC (.int 1))) dNil)))))
/-! slots of word_by: 0 deed, 1 end -/
def b_word_by (E : DXE) : DTS :=
    (dSeq (dIf (dB (dBin (rEqD' false) (dBin rIxE (dVar 0) (dC (.int 0))) (dC (.str "turn")))) (dRet (dBin rIxE (dBin rIxE (dVar 0) (dC (.int 2))) (dBin rIxE (dVar 1) (dBin rIxE (dVar 0) (dC (.int 1)))))) dNext)
    (dSeq (dIf (dB (dBin (rEqD' false) (dBin rIxE (dVar 0) (dC (.int 0))) (dC (.str "join")))) (dRet (dBin rIxE (dBin rIxE (dBin rIxE (dVar 0) (dC (.int 3))) (dBin rIxE (dVar 1) (dBin rIxE (dVar 0) (dC (.int 1))))) (dBin rIxE (dVar 1) (dBin rIxE (dVar 0) (dC (.int 2)))))) dNext)
    (dSeq (dIf (dB (dBin (rEqD' false) (dBin rIxE (dVar 0) (dC (.int 0))) (dC (.str "move")))) (dRet (dBin rIxE (dVar 1) (dBin rIxE (dVar 0) (dC (.int 2))))) dNext)
    (dRet (dBin rIxE (dVar 0) (dC (.int 2)))))))
/-! slots of after: 0 deed, 1 end, 2 at -/
def b_after (E : DXE) : DTS :=
    (dSeq (dAsg 2 (dBin rIxE (dVar 0) (dC (.int 1))))
    (dRet (dBin rAddD (dBin rAddD (dSl (dVar 1) dNoPart (dPart (dVar 2))) (dTup (dCons (dCall p_word_by 2 E (dCons (dVar 0) (dCons (dVar 1) dNil))) dNil))) (dSl (dVar 1) (dPart (dBin rAddD (dVar 2) (dC (.int 1)))) dNoPart))))
theorem pure_need_machine : ∀ ds h Q E, p_need_machine ds h Q E → dFn 1 b_need_machine ds h Q E := by
  intro ds h Q E q
  unfold p_need_machine at q
  split at q
  · obtain ⟨t, q1, q2⟩ := q
    unfold b_need_machine
    walk_at "st"
    refine ⟨t, iteB_of (fun c => ?_) fun c => ?_⟩
    · exact wkX_of (q2 (by simpa using c))
    · exact wk_of (q1 (by simpa using c))
  · exact q.elim
theorem mach_ok {m : Mach} {h : DH} {Q : DK} {E : DX} (k : m.ok) (q : Q .non h) : p_need_machine [m.enc] h Q E := ⟨T_mach k, fun _ => q, fun z => by rw [isMach_enc k] at z; cases z⟩
theorem pure_is_number : ∀ ds h Q E, p_is_number ds h Q E → dFn 2 b_is_number ds h Q E := by
  rintro ds h Q E ⟨m, d, rfl, k, q⟩
  unfold b_is_number
  k_call_by "st" Mach.enc
  exact ⟨k, wk_of (by simpa using q)⟩
theorem pure_is_word : ∀ ds h Q E, p_is_word ds h Q E → dFn 2 b_is_word ds h Q E := by
  rintro ds h Q E ⟨m, d, rfl, k, q⟩
  unfold b_is_word
  k_call_by "st" Mach.enc
  exact ⟨k, wk_of (by simpa using q)⟩
theorem nDeeds_enc {m : Mach} : nDeeds m.enc = m.ds.length := by simp [nDeeds, Mach.enc]
theorem needRow_enc {m : Mach} {d : D} (k : m.ok) : needRow m.enc d = rowRef m.ds.length d := by unfold needRow; rw [isMach_enc k, nDeeds_enc]; rfl
theorem needRow_no {dm d : D} (i : isMach dm = false) : needRow dm d = some rfMachine := by unfold needRow; rw [i]; rfl
theorem pure_need_row : ∀ ds h Q E, p_need_row ds h Q E → dFn 4 b_need_row ds h Q E := by
  rintro ds h Q E ⟨dm, x, dr, rfl, lv, tm, tr, q⟩
  unfold b_need_row
  walk_at "st"
  refine ⟨tm, fun i => ?_, fun i => wkX_of (by rw [needRow_no i] at q; exact q)⟩
  obtain ⟨m, k, rfl⟩ := isMach_dec i
  rw [needRow_enc k] at q
  try dsimp only
  rcases lv with rfl | ⟨ra, ds, rfl, ha, rfl⟩
  rotate_left
  · unfold tyName
    obtain ⟨sz, km⟩ := tr.frz
    have q : refOr (rowL m.ds.length ds) (Q .non h) E h := q
    k_call_by "st" ha
    refine loop_inv (fun r' env h' => h' = h ∧ (∃ x2 x3, env = [some m.enc, some (.ref ra), x2, x3]) ∧ ∃ (rest : List D) (j : Nat), r' = (rest.zipIdx j).map (fun p => .tup [.int (p.2 : Nat), p.1]) ∧ (∀ x ∈ rest, Kn x) ∧ firstBad m.ds.length rest j = firstBad m.ds.length ds 0) (fun x r' K hK env h' hI => ?_) (fun env h' hI => ?_) _ _ _ ⟨rfl, ⟨_, _, rfl⟩, ds, 0, rfl, fun x hx => (km x hx).kn, rfl⟩
    · obtain ⟨rfl, ⟨x2, x3, rfl⟩, rest, j, er, kr, hf⟩ := hI
      refine ⟨ha, ?_⟩
      cases rest with
      | nil => cases er
      | cons d rest =>
        rw [List.zipIdx_cons, List.map_cons] at er
        cases er
        k_call_by "st" setsD
        refine ⟨m, d, rfl, kr d (List.mem_cons_self ..), ?_⟩
        refine iteB_of (fun c => ?_) fun c => ?_
        · have c' : isIn 0 ((m.ds.length : Int) - 1) d = false := by simpa using c
          rw [firstBad, c', if_neg Bool.false_ne_true] at hf
          unfold rowL at q
          rw [← hf] at q
          exact wkX_of q
        · have c' : isIn 0 ((m.ds.length : Int) - 1) d = true := by simpa using c
          rw [firstBad, if_pos c'] at hf
          exact hK _ _ ⟨rfl, ⟨_, _, rfl⟩, rest, j + 1, rfl, fun x hx => kr x (List.mem_cons_of_mem _ hx), hf⟩
    · obtain ⟨rfl, ⟨x2, x3, rfl⟩, rest, j, er, kr, hf⟩ := hI
      refine ⟨ha, ?_⟩
      cases rest with
      | cons d rest => cases er
      | nil =>
        unfold rowL at q
        rw [← hf] at q
        have q : refOr (if 40 < ds.length then some rfLong else none) (Q .non h') E h' := q
        k_call_by "st" ha
        refine iteB_of (fun c => ?_) fun c => ?_
        · have c' := of_decide_eq_true c
          rw [if_pos (by omega)] at q
          exact wkX_of q
        · have c' := of_decide_eq_false c
          rw [if_neg (by omega)] at q
          exact wk_of q
  rw [tyName_eq tr.kn]
  cases x with
  | frz ds =>
    obtain ⟨sz, km⟩ := tr.frz
    have q : refOr (rowL m.ds.length ds) (Q .non h) E h := q
    walk_at "st"
    refine loop_inv (fun r' env h' => h' = h ∧ (∃ x2 x3, env = [some m.enc, some (.frz ds), x2, x3]) ∧ ∃ (rest : List D) (j : Nat), r' = (rest.zipIdx j).map (fun p => .tup [.int (p.2 : Nat), p.1]) ∧ (∀ x ∈ rest, Kn x) ∧ firstBad m.ds.length rest j = firstBad m.ds.length ds 0) (fun x r' K hK env h' hI => ?_) (fun env h' hI => ?_) _ _ _ ⟨rfl, ⟨_, _, rfl⟩, ds, 0, rfl, fun x hx => (km x hx).kn, rfl⟩
    · obtain ⟨rfl, ⟨x2, x3, rfl⟩, rest, j, er, kr, hf⟩ := hI
      refine ⟨trivial, ?_⟩
      cases rest with
      | nil => cases er
      | cons d rest =>
        rw [List.zipIdx_cons, List.map_cons] at er
        cases er
        k_call_by "st" setsD
        refine ⟨m, d, rfl, kr d (List.mem_cons_self ..), ?_⟩
        refine iteB_of (fun c => ?_) fun c => ?_
        · have c' : isIn 0 ((m.ds.length : Int) - 1) d = false := by simpa using c
          rw [firstBad, c', if_neg Bool.false_ne_true] at hf
          unfold rowL at q
          rw [← hf] at q
          exact wkX_of q
        · have c' : isIn 0 ((m.ds.length : Int) - 1) d = true := by simpa using c
          rw [firstBad, if_pos c'] at hf
          exact hK _ _ ⟨rfl, ⟨_, _, rfl⟩, rest, j + 1, rfl, fun x hx => kr x (List.mem_cons_of_mem _ hx), hf⟩
    · obtain ⟨rfl, ⟨x2, x3, rfl⟩, rest, j, er, kr, hf⟩ := hI
      refine ⟨trivial, ?_⟩
      cases rest with
      | cons d rest => cases er
      | nil =>
        unfold rowL at q
        rw [← hf] at q
        have q : refOr (if 40 < ds.length then some rfLong else none) (Q .non h') E h' := q
        walk_at "st"
        refine iteB_of (fun c => ?_) fun c => ?_
        · have c' := of_decide_eq_true c
          rw [if_pos (by omega)] at q
          exact wkX_of q
        · have c' := of_decide_eq_false c
          rw [if_neg (by omega)] at q
          exact wk_of q
  | ref a => cases tr
  | scr a => cases tr
  | exc nm fs => cases tr
  | _ => exact wkX_of q
/-- a row -/
abbrev rowD (r : List Nat) : D := .frz (natsD r)
theorem Th_row {r : List Nat} {n : Nat} (hl : r.length ≤ 1000) : Th (n + 1) (rowD r) := .frz (small_len (by simpa using hl)) fun x hx => by
  obtain ⟨i, _, rfl⟩ := List.mem_map.mp hx
  exact .int
theorem firstBad_nats {m : Mach} : ∀ {r : List Nat} {j : Nat}, rowOk m r → firstBad m.ds.length (natsD r) j = none
  | [], _, _ => rfl
  | i :: r, j, h => by
    have hi : i < m.ds.length := h i (List.mem_cons_self ..)
    show (if isIn 0 ((m.ds.length : Int) - 1) (nD i) = true then firstBad m.ds.length (natsD r) (j + 1) else some j) = none
    rw [if_pos (by rw [isIn_lt (by omega)]; exact decide_eq_true hi)]
    exact firstBad_nats fun x hx => h x (List.mem_cons_of_mem _ hx)
theorem firstBad_none {n : Nat} : ∀ {ds : List D} {j : Nat}, firstBad n ds j = none → ∀ x ∈ ds, isIn 0 ((n : Int) - 1) x = true
  | [], _, _, x, hx => by cases hx
  | d :: r, j, h, x, hx => by
    rw [firstBad] at h
    split at h
    · rename_i c
      rcases List.mem_cons.mp hx with e | e
      · rw [e]; exact c
      · exact firstBad_none h x e
    · cases h
theorem rowRef_ok {m : Mach} {r : List Nat} (hr : rowOk m r) (hl : r.length ≤ 40) : rowRef m.ds.length (rowD r) = none := by
  show rowL m.ds.length (natsD r) = none
  unfold rowL
  rw [firstBad_nats hr]
  show (if 40 < (natsD r).length then some rfLong else none) = none
  rw [if_neg (by simp; omega)]
theorem needRow_ok {m : Mach} {r : List Nat} (k : m.ok) (hr : rowOk m r) (hl : r.length ≤ 40) : needRow m.enc (rowD r) = none := by rw [needRow_enc k, rowRef_ok hr hl]
theorem Lv.same {h : DH} {d : D} : Lv h d d := .inl rfl
theorem row_ok {m : Mach} {r : List Nat} {h : DH} {Q : DK} {E : DX} (k : m.ok) (hr : rowOk m r) (hl : r.length ≤ 40) (q : Q .non h) : p_need_row [m.enc, rowD r] h Q E :=
  ⟨_, _, _, rfl, .inl rfl, T_mach k, Th_row (by omega), by rw [needRow_ok k hr hl]; exact q⟩
/-- a row that is not refused -/
theorem rowRef_none {m : Mach} {d : D} (e : rowRef m.ds.length d = none) : ∃ r : List Nat, rowOk m r ∧ r.length ≤ 40 ∧ d = rowD r := by
  have key : ∀ ds, rowL m.ds.length ds = none → ∃ r : List Nat, rowOk m r ∧ r.length ≤ 40 ∧ ds = natsD r := fun ds z => by
    unfold rowL at z
    split at z
    · cases z
    · rename_i hf
      split at z
      · cases z
      · rename_i hl
        obtain ⟨r, rfl, hr⟩ := map_dec (f := nD) (P := fun n => n < m.ds.length) (l := ds) fun x hx => by
          obtain ⟨n, rfl, a, b⟩ := isIn_dec (firstBad_none hf x hx) (by omega)
          exact ⟨n, by omega, rfl⟩
        rw [List.length_map] at hl
        exact ⟨r, hr, by omega, rfl⟩
  cases d with
  | frz ds =>
    obtain ⟨r, r1, r2, rfl⟩ := key ds e
    exact ⟨r, r1, r2, rfl⟩
  | _ => cases e
theorem needRow_none {dm d : D} (e : needRow dm d = none) : ∃ (m : Mach) (r : List Nat), m.ok ∧ dm = m.enc ∧ rowOk m r ∧ r.length ≤ 40 ∧ d = rowD r := by
  cases i : isMach dm with
  | false => rw [needRow_no i] at e; cases e
  | true =>
    obtain ⟨m, k, rfl⟩ := isMach_dec i
    rw [needRow_enc k] at e
    obtain ⟨r, a, b, c⟩ := rowRef_none e
    exact ⟨m, r, k, rfl, a, b, c⟩
theorem pure_word_by : ∀ ds h Q E, p_word_by ds h Q E → dFn 2 b_word_by ds h Q E := by
  rintro ds h Q E ⟨w, pl, d, e, rfl, k, he, q⟩
  unfold b_word_by
  cases d with
  | turn a t c =>
    have i1 : atI (natsD e) (a : Int) = some (nD (e.getD a 0)) := at_nats (by rw [he.1]; exact k.1)
    have i2 : atI (natsD t) ((e.getD a 0 : Nat) : Int) = some (nD (t.getD (e.getD a 0) 0)) := at_nats (by rw [k.2.1.1]; exact getD_lt (by rw [he.1]; exact k.1) he.2)
    cell_end Deed.enc i1 i2
    exact wk_of q
  | join a o t c =>
    have i1 : atI (natsD e) (a : Int) = some (nD (e.getD a 0)) := at_nats (by rw [he.1]; exact k.1)
    have h1 : e.getD a 0 < w := getD_lt (by rw [he.1]; exact k.1) he.2
    have i3 : atI (natsD e) (o : Int) = some (nD (e.getD o 0)) := at_nats (by rw [he.1]; exact k.2.1)
    have i2 : atI (t.map fun x => D.tup (natsD x)) ((e.getD a 0 : Nat) : Int) = some (.tup (natsD (t.getD (e.getD a 0) []))) := at_map (by rw [k.2.2.1.1]; exact h1)
    have h2 := k.2.2.1.2 (t.getD (e.getD a 0) []) (getD_mem (by rw [k.2.2.1.1]; exact h1))
    have i4 : atI (natsD (t.getD (e.getD a 0) [])) ((e.getD o 0 : Nat) : Int) = some (nD ((t.getD (e.getD a 0) []).getD (e.getD o 0) 0)) := at_nats (by rw [h2.1]; exact getD_lt (by rw [he.1]; exact k.2.1) he.2)
    kpf_say Deed.enc i1 i2 (And.intro i3 i4)
    exact wk_of q
  | move a o c =>
    have i1 : atI (natsD e) (o : Int) = some (nD (e.getD o 0)) := at_nats (by rw [he.1]; exact k.2.1)
    k_call_by "st" Deed.enc i1
    exact wk_of q
  | put a x c =>
    k_call_by "st" Deed.enc
    exact wk_of q
theorem Deed.enc_at {d : Deed} {h : DH} {Q : DK} (q : Q (nD d.at_) h) : rIxE d.enc (.int 1) h Q := by cases d <;> exact q
theorem pure_after : ∀ ds h Q E, p_after ds h Q E → dFn 3 b_after ds h Q E := by
  rintro ds h Q E ⟨w, pl, d, e, rfl, k, hpl, he, q⟩
  unfold b_after
  walk_at "st"
  refine Deed.enc_at ?_
  walk_at "st"
  refine ⟨w, pl, d, e, rfl, k, he, ?_⟩
  have la : d.at_ < e.length := by rw [he.1]; exact Deed.at_lt k
  have c1 : cutD (natsD e) none (some (d.at_ : Int)) = natsD (e.take d.at_) := by rw [cut_to]; exact List.map_take.symm
  have c2 : cutD (natsD e) (some ((d.at_ : Int) + 1)) none = natsD (e.drop (d.at_ + 1)) := by
    rw [show ((d.at_ : Int) + 1) = ((d.at_ + 1 : Nat) : Int) by omega, cut_from]; exact List.map_drop.symm
  k_call_by "st" c1 c2
  have hl := he.1
  refine ⟨by decide, small_size (by simp; omega), small_size (by simp; omega), wk_of ?_⟩
  have e3 : natsD (e.take d.at_) ++ [nD (d.word e)] ++ natsD (e.drop (d.at_ + 1)) = natsD (d.after e) := by
    unfold Deed.after natsD
    rw [List.set_eq_take_append_cons_drop, if_pos la]
    simp
  rw [e3]
  exact q
/-! ### runs -/
def runL (m : Mach) : List Nat → List Nat → List (List Nat)
  | [], e => [e]
  | i :: r, e => e :: runL m r ((m.ds.getD i (.put 0 0 1)).after e)
def Mach.deed (m : Mach) (i : Nat) : Deed := m.ds.getD i (.put 0 0 1)
theorem Mach.deed_ok {m : Mach} (k : m.ok) {i : Nat} (h : i < m.ds.length) : (m.deed i).ok m.w m.pl := k.dk _ (getD_mem h)
theorem Mach.at_deed {m : Mach} {i : Nat} (h : i < m.ds.length) : atI (m.ds.map Deed.enc) (i : Int) = some (m.deed i).enc := at_map h
abbrev endsD (l : List (List Nat)) : List D := l.map endD
def isBegI (w pl : Int) : D → Bool
  | .tup xs => decide ((xs.length : Int) = pl) && xs.all (isIn 0 (w - 1))
  | _ => false
abbrev isBeg (m : Mach) : D → Bool := isBegI m.w m.pl
def isBegD : D → D → Bool
  | .tup [.int w, .int pl, _], d => isBegI w pl d
  | _, _ => false
def p_is_beginning : DSp := fun ds h Q _ => ∃ (m : Mach) (d : D), ds = [m.enc, d] ∧ T d ∧ Q (.bl (isBeg m d)) h
def rfWord : Rf := ("NoWord", [])
/-- what is refused of a run -/
def runRef (dm dr db : D) : Option Rf := match needRow dm dr with
  | some r => some r
  | none => bif isBegD dm db then none else some rfWord
def p_run : DSp := fun ds h Q E => (∃ (m : Mach) (r e : List Nat), ds = [m.enc, rowD r, endD e] ∧ m.ok ∧ rowOk m r ∧ r.length ≤ 40 ∧ endOk m.w m.pl e ∧ Q (.frz (endsD (runL m r e))) h) ∨
  ∃ (dm dr db : D) (rf : Rf), ds = [dm, dr, db] ∧ T dm ∧ T dr ∧ T db ∧ runRef dm dr db = some rf ∧ E rf.1 rf.2 h
/-! slots of is_beginning: 0 machine, 1 thing, 2 word -/
def b_is_beginning (E : DXE) : DTS :=
    (dRet (dAndV (dIsi "tuple" (dVar 1)) (dAndV (dBin (rEqD' false) (dCB rLenE (dCons (dVar 1) dNil)) (dBin rIxE (dVar 0) (dC (.int 1)))) (dLq rAllD (dLc (dItE (dVar 1)) (.name 2) [2] dYes (dCall p_is_word 2 X0 (dCons (dVar 0) (dCons (dVar 2) dNil))))))))
/-! slots of run: 0 machine, 1 row, 2 beginning, 3 found, 4 number -/
def b_run (E : DXE) : DTS :=
    (dSeq (dDrop (dCall p_need_row 2 E (dCons (dVar 0) (dCons (dVar 1) dNil))))
    (dSeq (dIf (dNot (dB (dCall p_is_beginning 2 E (dCons (dVar 0) (dCons (dVar 2) dNil))))) (dRaiseT "NoWord" E) dNext)
    (dSeq (dAsg 3 (dNew (dLst (dCons (dVar 2) dNil))))
    (dSeq (dFor (dItE (dVar 1)) (.name 4) (dDrop (dMeth rAppD (dVar 3) (dCons (dCall p_after 2 E (dCons (dBin rIxE (dBin rIxE (dVar 0) (dC (.int 2))) (dVar 4)) (dCons (dBin rIxE (dVar 3) (dUn rNegI (dC (.int 1)))) dNil))) dNil))))
    (dRet (dVar 3))))))
theorem T_end {e : List Nat} (hl : e.length ≤ 1000) : T (endD e) := Th_nats hl
theorem pure_is_beginning : ∀ ds h Q E, p_is_beginning ds h Q E → dFn 3 b_is_beginning ds h Q E := by
  rintro ds h Q E ⟨m, d, rfl, t, q⟩
  unfold b_is_beginning
  walk_at "st"
  rw [tyName_eq t.kn]
  cases d with
  | tup xs =>
    k_call_by "st" Mach.enc
    refine iteB_of (fun c => ?_) fun c => ?_
    · refine comp_map (fun x => .bl (isIn 0 ((m.w : Int) - 1) x)) trivial t.tup.1 (fun x hx K hK => ?_) ?_
      · walk_at "st"
        exact ⟨m, x, rfl, (t.tup.2 x hx).kn, hK⟩
      · exact all_map (wk_of (by simpa only [isBeg, isBegI, c, Bool.true_and] using q))
    · exact wk_of (by simpa only [isBeg, isBegI, c, Bool.false_and] using q)
  | _ => exact wk_of q
theorem isBeg_end {m : Mach} {e : List Nat} (hw : 0 < m.w) (he : endOk m.w m.pl e) : (decide (((natsD e).length : Int) = m.pl) && (natsD e).all (isIn 0 ((m.w : Int) - 1))) = true := by
  simp only [Bool.and_eq_true, decide_eq_true_eq, List.all_eq_true]
  refine ⟨by rw [List.length_map, he.1], fun x hx => ?_⟩
  obtain ⟨y, hy, rfl⟩ := List.mem_map.mp hx
  rw [isIn_lt hw]
  exact decide_eq_true (he.2 y hy)
/-- the last of a run so far -/
theorem atI_snoc {l : List D} {x : D} : atI (l ++ [x]) (-1) = some x := atI_last
theorem isBeg_endD {m : Mach} {e : List Nat} (k : m.ok) (he : endOk m.w m.pl e) : isBeg m (endD e) = true := isBeg_end (by have := k.w2; omega) he
/-- a local list at a def's end -/
theorem wk_new {Q : DK} {p : Addr} {ds : List D} {h : DH} (np : h p = none) (q : Q (.frz ds) h) : wk Q (.ref p) (up h p (.lst ds)) := wk_lst up_same np (Sub.refl.up np) q
/-- .. forgotten -/
theorem wk_drop {Q : DK} {d : D} {p : Addr} {o : DO} {h : DH} (np : h p = none) (q : Q d h) : wk Q d (up h p o) := wk_s (Sub.refl.up np) q
theorem pure_run : ∀ ds h Q E, p_run ds h Q E → dFn 5 b_run ds h Q E := by
  rintro ds h Q E (⟨m, r, e, rfl, k, hr, hl, he, q⟩ | ⟨dm, dr, db, rf, rfl, tm, tr, tb, no, q⟩)
  rotate_left
  · unfold b_run
    walk_at "st"
    refine ⟨_, _, _, rfl, .inl rfl, tm, tr, ?_⟩
    unfold runRef at no
    cases c : needRow dm dr with
    | some rf2 =>
      rw [c] at no
      cases no
      exact wkX_of q
    | none =>
      rw [c] at no
      obtain ⟨m, r, k, rfl, hr, hl, rfl⟩ := needRow_none c
      rw [refOr_none]
      refine ⟨m, db, rfl, tb, ?_⟩
      have no : (bif isBeg m db then none else some rfWord) = some rf := no
      cases c2 : isBeg m db with
      | true => rw [c2] at no; cases no
      | false =>
        rw [c2] at no
        cases no
        walk_at "st"
        exact wkX_of q
  have hw := k.w2
  have hpl := k.p2
  unfold b_run
  walk_at "st"
  refine row_ok k hr hl ⟨m, _, rfl, T_end (by rw [he.1]; omega), ?_⟩
  k_call_by "st" (isBeg_endD k he)
  refine ⟨by decide, fun p np => ?_⟩
  refine loop_inv (fun r' env h' => ∃ (acc : List (List Nat)) (e' : List Nat) (rest : List Nat) (x : Option D), env = [some m.enc, some (rowD r), some (endD e), some (.ref p), x] ∧ r' = natsD rest ∧ rowOk m rest ∧ endOk m.w m.pl e' ∧ h' = up h p (.lst (endsD (acc ++ [e']))) ∧ acc ++ runL m rest e' = runL m r e ∧ acc.length + rest.length = r.length)
    (fun x r' K hK env h' hI => ?_) (fun env h' hI => ?_) _ _ _ ⟨[], e, r, none, rfl, rfl, hr, he, rfl, rfl, by simp⟩
  · obtain ⟨acc, e', rest, x0, rfl, er, hrest, he', rfl, hrun, hlen⟩ := hI
    refine ⟨trivial, ?_⟩
    cases rest with
    | nil => cases er
    | cons i rest =>
      simp only [natsD, List.map_cons, List.cons.injEq] at er
      obtain ⟨rfl, rfl⟩ := er
      have hi : i < m.ds.length := hrest i (List.mem_cons_self ..)
      have la : atI (endsD (acc ++ [e'])) (-1) = some (endD e') := by
        unfold endsD; rw [List.map_append]; exact atI_last
      cell_end Mach.enc (Mach.at_deed hi) la
      refine ⟨m.w, m.pl, m.deed i, e', rfl, Mach.deed_ok k hi, by omega, he', ?_⟩
      walk_at "st"
      simp only [List.length_cons] at hlen
      refine ⟨?_, hK _ _ ⟨acc ++ [e'], (m.deed i).after e', rest, _, rfl, rfl, fun z hz => hrest z (List.mem_cons_of_mem _ hz), Deed.after_ok (Mach.deed_ok k hi) he', ?_, ?_, by simp; omega⟩⟩
      · simp; exact Nat.lt_of_lt_of_le (by omega : acc.length + 1 < 100) (by decide)
      · rw [up_up]; simp
      · rw [← hrun]; simp [runL, Mach.deed]
  · obtain ⟨acc, e', rest, x0, rfl, er, hrest, he', rfl, hrun, hlen⟩ := hI
    refine ⟨trivial, ?_⟩
    cases rest with
    | cons i rest => cases er
    | nil =>
      walk_at "st"
      rw [show acc ++ [e'] = runL m r e from hrun]
      exact wk_new np q
/-! a list of truths -/
theorem notin_bls {h : DH} {bs : List Bool} {Q : DK} (q : Q (.bl (bs.all id)) h) : rInD' true (.bl false) (.frz (bs.map .bl)) h Q := by
  have dl : ∀ bs : List Bool, DdL h (bs.map .bl) (bs.map .bool) := fun bs => by
    induction bs with
    | nil => exact .nil
    | cons b bs ih => exact .cons (.bl b) ih
  have cl : ∀ bs : List Bool, PyData.canLayAll0 (bs.map .bool) = true := fun bs => canLayAll_of fun p hp => by
    obtain ⟨b, _, rfl⟩ := List.mem_map.mp hp
    simp [PyData.canLay0]
  have dp : ∀ bs : List Bool, PyData.depthAll (bs.map .bool) ≤ 0 := fun bs => depthAll_of fun p hp => by
    obtain ⟨b, _, rfl⟩ := List.mem_map.mp hp
    simp [PyData.depth]
  refine ⟨.bool false, bs.map .bool, .bl false, .inl (.frz (dl bs)), by decide, ?_, ?_⟩
  · unfold SeqAt.shaped
    rw [Bool.and_eq_true]
    exact ⟨by simp only [PyData.canLay0]; exact cl bs, decide_eq_true (by simp only [PyData.depth]; have := dp bs; omega)⟩
  · have en : ∀ bs : List Bool, (true ^^ (bs.map PyData.bool).any fun z => PyData.eqv z (.bool false)) = bs.all id := fun bs => by
      rw [List.any_map]
      induction bs with
      | nil => rfl
      | cons b bs ih =>
        rw [List.any_cons, List.all_cons, ← ih]
        cases b <;> simp [PyData.eqv]
    rw [en]; exact q
/-! ### _law_same: the same value is told alike -/
/-- x is the value d, some lists of it told -/
def As (h : DH) (x d : D) : Prop := SlD (fun _ => True) h x d
def AsL (h : DH) (xs ds : List D) : Prop := SlL (fun _ => True) h xs ds
theorem As.refl {h : DH} {d : D} : As h d d := .keep d
theorem AsL.refl {h : DH} {d : List D} : AsL h d d := SlL.keep d
theorem As.lst {h : DH} {a : Addr} {ds es : List D} (e : h a = some (.lst ds)) (l : AsL h ds es) : As h (.ref a) (.frz es) := SlD.lst (A := fun _ => True) trivial e l
theorem As.told {h : DH} {a : Addr} {ds : List D} (e : h a = some (.lst ds)) : As h (.ref a) (.frz ds) := SlD.lst (A := fun _ => True) trivial e (SlL.keep ds)
def q__law_same : Nat → DSp
  | 0, _, _, _, _ => False
  | n + 1, ds, h, Q, _ => ∃ x y d, ds = [x, y] ∧ As h x d ∧ As h y d ∧ Th n d ∧ n ≤ 60 ∧ Q (.bl true) h
def p__law_same : DSp := q__law_same 12
theorem z0__law_same {ds h Q E} (z : q__law_same 0 ds h Q E) : False := z
/-! slots of _law_same: 0 found, 1 due, 2 one, 3 other -/
def b__law_same (rec : DSp) (E : DXE) : DTS :=
    (dSeq (dIf (dB (dBin (rIsD false) (dVar 1) (dC .non))) (dRet (dBin (rIsD false) (dVar 0) (dC .non))) dNext)
    (dSeq (dIf (dOr (dB (dIsi "bool" (dVar 1))) (dB (dIsi "bool" (dVar 0)))) (dRet (dAndV (dIsi "bool" (dVar 1)) (dAndV (dIsi "bool" (dVar 0)) (dBin (rEqD' false) (dVar 0) (dVar 1))))) dNext)
    (dSeq (dIf (dB (dIsi "int" (dVar 1))) (dRet (dAndV (dIsi "int" (dVar 0)) (dBin (rEqD' false) (dVar 0) (dVar 1)))) dNext)
    (dSeq (dIf (dB (dIsi "str" (dVar 1))) (dRet (dAndV (dIsi "str" (dVar 0)) (dBin (rEqD' false) (dVar 0) (dVar 1)))) dNext)
    (dSeq (dIf (dOr (dB (dBin (rEqD' true) (dIsi "tuple" (dVar 1)) (dIsi "tuple" (dVar 0)))) (dB (dBin (rEqD' true) (dIsi "list" (dVar 1)) (dIsi "list" (dVar 0))))) (dRet (dC (.bl false))) dNext)
    (dSeq (dIf (dB (dBin (rEqD' true) (dCB rLenE (dCons (dVar 0) dNil)) (dCB rLenE (dCons (dVar 1) dNil)))) (dRet (dC (.bl false))) dNext)
    (dRet (dBin (rInE true) (dC (.bl false)) (dNewV (dLc (dZip (dCons (dVar 0) (dCons (dVar 1) dNil))) (.tup [2, 3]) [2, 3] dYes (dCall rec 2 X0 (dCons (dVar 2) (dCons (dVar 3) dNil)))))))))))))
theorem As.len {h : DH} : ∀ {xs ds : List D}, AsL h xs ds → xs.length = ds.length
  | _, _, .nil => rfl
  | _, _, .cons a b => by rw [List.length_cons, List.length_cons, As.len b]
theorem ty_ref {h : DH} {a : Addr} {ds : List D} {k : String → Prop} (e : h a = some (.lst ds)) : tyName (.ref a) h k = k "list" := by
  show lstAt (h a) _ = _
  rw [e]
  rfl
theorem zip_rf {h : DH} {a : Addr} {es : List D} {k : List D → (DH → Prop) → Prop} : zipOf (.ref a) (.frz es) h k = lstAt (h a) fun xs => k (zipD xs es) fun h' => h' a = some (.lst xs) ∧ True := rfl
theorem zip_fr {h : DH} {a : Addr} {es : List D} {k : List D → (DH → Prop) → Prop} : zipOf (.frz es) (.ref a) h k = lstAt (h a) fun xs => k (zipD es xs) fun h' => True ∧ h' a = some (.lst xs) := rfl
theorem zip_same {h : DH} {n : Nat} : ∀ {xs ys ds : List D} {z : D}, AsL h xs ds → AsL h ys ds → (∀ d ∈ ds, Th n d) → z ∈ zipD xs ys → ∃ x y d, z = .tup [x, y] ∧ As h x d ∧ As h y d ∧ Th n d
  | _, _, _, z, .nil, .nil, _, hz => by cases hz
  | _, _, _, z, .cons a b, .cons a' b', t, hz => by
    unfold zipD at hz
    rw [List.zipWith_cons_cons] at hz
    rcases List.mem_cons.mp hz with rfl | hz
    · exact ⟨_, _, _, rfl, a, a', t _ (List.mem_cons_self ..)⟩
    · exact zip_same b b' (fun d hd => t d (List.mem_cons_of_mem _ hd)) hz
/-- its kind -/
theorem As.cases {h : DH} {x : D} {d : D} (a : As h x d) {n : Nat} (t : Th n d) : (x = d ∧ ((∀ ds, d ≠ .tup ds) ∧ ∀ ds, d ≠ .frz ds)) ∨ (∃ xs ds, x = .tup xs ∧ d = .tup ds ∧ AsL h xs ds) ∨ (∃ xs ds, (x = .frz xs ∨ ∃ b, x = .ref b ∧ h b = some (.lst xs)) ∧ d = .frz ds ∧ AsL h xs ds) := by
  unfold As at a
  cases a with
  | keep =>
    cases x with
    | tup ds => exact .inr (.inl ⟨ds, ds, rfl, rfl, AsL.refl⟩)
    | frz ds => exact .inr (.inr ⟨ds, ds, .inl rfl, rfl, AsL.refl⟩)
    | _ => exact .inl ⟨rfl, (fun _ z => nomatch z), fun _ z => nomatch z⟩
  | lst _ e l => exact .inr (.inr ⟨_, _, .inr ⟨_, rfl, e⟩, rfl, l⟩)
  | tup l => exact .inr (.inl ⟨_, _, rfl, rfl, l⟩)
  | frz l => exact .inr (.inr ⟨_, _, .inl rfl, rfl, l⟩)
theorem pure__law_same (j : Nat) : ∀ ds h Q E, q__law_same (j + 1) ds h Q E → dFn 4 (b__law_same (q__law_same j)) ds h Q E := by
  rintro ds h Q E ⟨x, y, d, rfl, ax, ay, ix, hj, q⟩
  have fin : ∀ {xs ys ds : List D} {x y : D} {k : Nat} {chk : DH → Prop}, AsL h xs ds → AsL h ys ds → (∀ y ∈ ds, Th k y) → ds.length ≤ sizeLine → k + 1 ≤ j → chk h → dComp (.tup [2, 3]) [2, 3] dYes (dCall (q__law_same j) 2 X0 (dCons (dVar 2) (dCons (dVar 3) dNil))) chk [some x, some y, none, none] (fun ds h1 => rInD' true (.bl false) (.frz ds) h1 (wk Q)) (zipD xs ys) [] h := fun {xs ys ds x y k chk} ax ay l sz dj hc => by
    refine comp_map (fun _ => .bl true) hc (by rw [zipD_len, As.len ax, As.len ay]; omega) (fun z hz K hK => ?_) ?_
    · obtain ⟨a, b, d, rfl, a1, a2, t⟩ := zip_same ax ay l hz
      k_call_by "st" setsD
      cases j with
      | zero => omega
      | succ j => exact ⟨a, b, d, rfl, a1, a2, t.mono (by omega), by omega, hK⟩
    · have e : ((zipD xs ys).map fun _ => D.bl true) = ((zipD xs ys).map fun _ => true).map .bl := by rw [List.map_map]; rfl
      rw [e]
      refine notin_bls (wk_of ?_)
      have : ((zipD xs ys).map fun _ => true).all id = true := by simp
      rw [this]; exact q
  unfold b__law_same
  rcases ax.cases ix with ⟨rfl, n1, n2⟩ | ⟨xs, ds, rfl, rfl, lx⟩ | ⟨xs, ds, ex, rfl, lx⟩
  · rcases ay.cases ix with ⟨rfl, _, _⟩ | ⟨_, ds, _, rfl, _⟩ | ⟨_, ds, _, rfl, _⟩
    · k_call_by "st" (tyName_eq ix.kn)
      cases ix with
      | non => k_call_by "st" ty_bool ty_int; exact wk_of q
      | bl => walk_at "st"; exact wk_of q
      | int => walk_at "st"; exact wk_of q
      | str s l => walk_at "st"; exact wk_of q
      | tup sz l => exact (n1 _ rfl).elim
      | frz sz l => exact (n2 _ rfl).elim
    · exact (n1 _ rfl).elim
    · exact (n2 _ rfl).elim
  · rcases ay.cases ix with ⟨rfl, n1, _⟩ | ⟨ys, ds', rfl, e, ly⟩ | ⟨_, _, _, e, _⟩
    · exact (n1 _ rfl).elim
    · cases e
      have l1 := As.len lx
      have l2 := As.len ly
      cases ix with
      | tup sz l =>
        k_call_by "st" l1 l2
        exact fin lx ly l (Nat.le_trans sz (Nat.le_trans (Nat.add_le_add_left (Nat.le_trans (Nat.le_succ _) hj) _) (by decide))) (by omega) trivial
    · cases e
  · rcases ay.cases ix with ⟨rfl, _, n2⟩ | ⟨_, _, _, e, _⟩ | ⟨ys, ds', ey, e, ly⟩
    · exact (n2 _ rfl).elim
    · cases e
    · cases e
      have l1 := As.len lx
      have l2 := As.len ly
      cases ix with
      | frz sz l =>
        have s2 := Nat.le_trans sz (Nat.le_trans (Nat.add_le_add_left (Nat.le_trans (Nat.le_succ _) hj) _) (by decide : 1000 + 60 ≤ sizeLine))
        rcases ex with rfl | ⟨a, rfl, ea⟩
        · rcases ey with rfl | ⟨b, rfl, eb⟩
          · k_call_by "st" l1 l2
            exact fin lx ly l s2 (by omega) trivial
          · kpf_say (ty_ref eb) zip_fr eb (And.intro l1 l2)
            exact fin (chk := fun h' => h' b = some (.lst ys)) lx ly l s2 (by omega) eb
        · rcases ey with rfl | ⟨b, rfl, eb⟩
          · kpf_say (ty_ref ea) zip_rf ea (And.intro l1 l2)
            exact fin (chk := fun h' => h' a = some (.lst xs)) lx ly l s2 (by omega) ea
          · kpf_say (ty_ref ea) (ty_ref eb) ea (And.intro eb (And.intro l1 l2))
            exact fin (chk := fun h' => h' a = some (.lst xs) ∧ h' b = some (.lst ys)) lx ly l s2 (by omega) ⟨ea, eb⟩
theorem same_call {d : D} {n : Nat} {h : DH} {Q : DK} {E : DX} (t : Th n d) (hn : n ≤ 11) (q : Q (.bl true) h) : p__law_same [d, d] h Q E := ⟨d, d, d, rfl, As.refl, As.refl, t.mono hn, by decide, q⟩
theorem same_as {d x y : D} {n : Nat} {h : DH} {Q : DK} {E : DX} (ax : As h x d) (ay : As h y d) (t : Th n d) (hn : n ≤ 11) (q : Q (.bl true) h) : p__law_same [x, y] h Q E := ⟨x, y, d, rfl, ax, ay, t.mono hn, by decide, q⟩
/-! ### equality of alike data -/
mutual
theorem eqv_refl : ∀ p : PyData, p.canLay0 = true → PyData.eqv p p = true
  | .none, _ => by simp [PyData.eqv]
  | .bool b, _ => by simp [PyData.eqv]
  | .int b, _ => by simp [PyData.eqv]
  | .str b, _ => by simp [PyData.eqv]
  | .list ps, h => by
    simp only [PyData.eqv]
    exact eqvAll_refl ps (by simpa [PyData.canLay0] using h)
  | .tuple ps, h => by
    simp only [PyData.eqv]
    exact eqvAll_refl ps (by simpa [PyData.canLay0] using h)
  | .dict _, h => by simp [PyData.canLay0] at h
theorem eqvAll_refl : ∀ ps : List PyData, PyData.canLayAll0 ps = true → PyData.eqvAll ps ps = true
  | [], _ => by simp [PyData.eqvAll]
  | p :: ps, h => by
    simp only [PyData.canLayAll0, Bool.and_eq_true] at h
    simp only [PyData.eqvAll, Bool.and_eq_true]
    exact ⟨eqv_refl p h.1, eqvAll_refl ps h.2⟩
end
theorem eqV_refl {d : D} {n : Nat} (t : Th n d) : eqV d d = true := eqv_refl _ (t.data (h := fun _ => none)).2.1
theorem ne_same {h : DH} {x : D} {n : Nat} {Q : DK} (t : Th n x) (hn : n ≤ 64) (k : Q (.bl false) h) : rEqD' true x x h Q := rEq_of t t hn hn (by rw [eqV_refl t]; exact k)
theorem eq_same {h : DH} {x : D} {n : Nat} {Q : DK} (t : Th n x) (hn : n ≤ 64) (k : Q (.bl true) h) : rEqD' false x x h Q := rEq_of t t hn hn (by rw [eqV_refl t]; exact k)
/-! ### the pen opened -/
def p__law_open : DSp := fun ds h Q _ => ∃ ns : List Int, ds = [.scr (ns.map .int)] ∧ ns.length ≤ 63 ∧ ∀ p cc h', PenAt h' p cc 0 → Sub h h' → h p = none → Q (.ref p) h'
/-! slots of _law_open: 0 script, 1 cells, 2 k, 3 cell -/
def b__law_open (E : DXE) : DTS :=
    (dSeq (dAsg 1 (dNew (dListOfE (dSl (dVar 0) dNoPart (dPart (dC (.int 12)))))))
    (dSeq (dFor (dEnum (dCons (dSl (dVar 0) (dPart (dC (.int 12))) (dPart (dC (.int 63)))) dNil)) (.tup [2, 3]) (dSetIx rSetIxE (dBin rAddD (dBin rIxE (dVar 1) (dBin rModI (dVar 2) (dC (.int 12)))) (dVar 3)) (dVar 1) (dBin rModI (dVar 2) (dC (.int 12)))))
    (dRet (dNew (dLst (dCons (dVar 1) (dCons (dC (.int 0)) (dCons (dC (.int 0)) dNil))))))))
theorem set_ints {l : List Int} {j : Nat} {v : Int} : (l.map D.int).set j (.int v) = (l.set j v).map D.int := by rw [List.map_set]
theorem pure__law_open : ∀ ds h Q E, p__law_open ds h Q E → dFn 4 b__law_open ds h Q E := by
  rintro ds h Q E ⟨ns, rfl, hl, q⟩
  unfold b__law_open
  have e1 : cutD (ns.map D.int) none (some 12) = (ns.take 12).map .int := by
    rw [show (12 : Int) = ((12 : Nat) : Int) from rfl, cut_to, List.map_take]
  have e2 : cutD (ns.map D.int) (some 12) (some 63) = ((ns.take 63).drop 12).map .int := by
    rw [show (12 : Int) = ((12 : Nat) : Int) from rfl, show (63 : Int) = ((63 : Nat) : Int) from rfl, cut_mid, List.map_drop, List.map_take]
  k_call_by "st" e1 e2
  intro a1 n1
  refine loop_inv (fun r env h' => ∃ (cells : List Int) (x2 x3 : Option D), env = [some (.scr (ns.map .int)), some (.ref a1), x2, x3] ∧ h' = up h a1 (.lst (cells.map .int)) ∧ (∀ y ∈ r, ∃ (i : Nat) (v : Int), y = .tup [.int (i : Int), .int v]) ∧ (r ≠ [] → cells.length = 12))
    (fun x r K hK env h' hI => ?_) (fun env h' hI => ?_) _ _ _ ⟨ns.take 12, none, none, rfl, rfl, fun y hy => ?_, fun hne => ?_⟩
  · obtain ⟨cells, x2, x3, rfl, rfl, hy, hc⟩ := hI
    obtain ⟨i, v, rfl⟩ := hy x (List.mem_cons_self ..)
    have hc := hc (by simp)
    refine ⟨trivial, ?_⟩
    obtain ⟨w, ew⟩ := atI_int (l := cells) (i := (i : Int) % 12) (by omega) (by omega)
    k_call_by "st" setsD ew
    have ix : ixN (cells.map D.int).length ((i : Int) % 12) = some (i % 12) := by
      unfold ixN
      rw [if_pos (by omega), if_pos (by simp; omega)]
      congr 1
    exact ⟨by decide, by decide, i % 12, ix, hK _ _ ⟨cells.set (i % 12) (w + v), _, _, rfl, by rw [up_up, set_ints], fun y h => hy y (List.mem_cons_of_mem _ h), fun _ => by simp [hc]⟩⟩
  · obtain ⟨cells, x2, x3, rfl, rfl, _, _⟩ := hI
    refine ⟨trivial, ?_⟩
    walk_at "st"
    refine ⟨by decide, fun p np => wk_of (q p a1 _ ⟨0, 0, cells, up_same, ?_, ne_of_up up_same np, by omega, by simp⟩ ((Sub.refl.up n1).up np) ?_)⟩
    · rw [up_ne (ne_of_up up_same np)]; exact up_same
    · cases e : h p with
      | none => rfl
      | some o => rw [Sub.refl.up n1 p o e] at np; cases np
  · unfold enumD at hy
    obtain ⟨z, hz, rfl⟩ := List.mem_map.mp hy
    obtain ⟨i, j⟩ := z
    have hz' := List.fst_mem_of_mem_zipIdx hz
    obtain ⟨w, hw, rfl⟩ := List.mem_map.mp hz'
    exact ⟨j, w, rfl⟩
  · have : ((ns.take 63).drop 12) ≠ [] := fun z => by rw [z] at hne; exact hne rfl
    have l2 : 12 < ns.length := by
      by_cases c : 12 < ns.length
      · exact c
      · exfalso; apply this; apply List.drop_of_length_le; simp; omega
    simp; omega
/-! ### the law's rows, deeds done, beginnings -/
def p__law_row : DSp := fun ds h Q _ => ∃ (p cc : Addr) (n most : Nat) (m : Mach), ds = [.ref p, m.enc, nD most] ∧ m.ok ∧ most ≤ 40 ∧ PenAt h p cc n ∧ n + 100 ≤ BIG ∧
  ∀ (r : List Nat) (h1 : DH), rowOk m r → r.length ≤ most → PenAt h1 p cc (n + 100) → But p h h1 → Q (rowD r) h1
def p__law_after : DSp := fun ds h Q _ => ∃ (w pl : Nat) (d : Deed) (e : List Nat), ds = [d.enc, endD e] ∧ d.ok w pl ∧ endOk w pl e ∧ Q (endD (d.after e)) h
/-- all beginnings, in order -/
def begs (m : Mach) : List (List Nat) := if m.pl = 1 then (List.range m.w).map fun k => [k] else (List.range (m.w * m.w)).map fun k => [k / m.w, k % m.w]
theorem begs_ok {m : Mach} (k : m.ok) : ∀ e ∈ begs m, endOk m.w m.pl e := by
  intro e he
  have h1 := k.p1
  have h2 := k.p2
  have h3 := k.w2
  unfold begs at he
  split at he
  · obtain ⟨i, hi, rfl⟩ := List.mem_map.mp he
    rename_i hp
    have := List.mem_range.mp hi
    exact ⟨by simp [hp], fun x hx => by simp at hx; omega⟩
  · obtain ⟨i, hi, rfl⟩ := List.mem_map.mp he
    rename_i hp
    have := List.mem_range.mp hi
    refine ⟨by simp; omega, fun x hx => ?_⟩
    simp at hx
    rcases hx with rfl | rfl
    · exact Nat.div_lt_of_lt_mul this
    · exact Nat.mod_lt _ (by omega)
def p__law_begins : DSp := fun ds h Q _ => ∃ m : Mach, ds = [m.enc] ∧ m.ok ∧ Q (.frz (endsD (begs m))) h
/-! slots of _law_row: 0 pen, 1 machine, 2 most, 3 kind, 4 many, 5 found, 6 k -/
def b__law_row (E : DXE) : DTS :=
    (dSeq (dAsg 3 (dCall p__law_take 2 E (dCons (dVar 0) (dCons (dC (.int 4)) dNil))))
    (dSeq (dAsg 4 (dIfE (dB (dBin (rEqD' false) (dVar 3) (dC (.int 0)))) (dVar 2) (dCall p__law_take 2 E (dCons (dVar 0) (dCons (dBin rAddD (dVar 2) (dC (.int 1))) dNil)))))
    (dSeq (dAsg 5 (dNewV (dLc (dRg1 (dCons (dVar 4) dNil)) (.name 6) [6] dYes (dCall p__law_take 2 X0 (dCons (dVar 0) (dCons (dCB rLenE (dCons (dBin rIxE (dVar 1) (dC (.int 2))) dNil)) dNil))))))
    (dSeq (dIf (dB (dBin (rEqD' false) (dVar 3) (dC (.int 1)))) (dAsg 5 (dSl (dBin rMulD (dSl (dVar 5) dNoPart (dPart (dC (.int 2)))) (dVar 4)) dNoPart (dPart (dVar 4)))) dNext)
    (dRet (dVar 5))))))
/-! slots of _law_after: 0 deed, 1 end, 2 here, 3 own -/
def b__law_after (E : DXE) : DTS :=
    (dSeq (dAsg 2 (dNew (dListOfE (dVar 1))))
    (dSeq (dAsg 3 (dBin rIxE (dVar 1) (dBin rIxE (dVar 0) (dC (.int 1)))))
    (dSeq (dIf (dB (dBin (rEqD' false) (dBin rIxE (dVar 0) (dC (.int 0))) (dC (.str "turn")))) (dSetIx rSetIxE (dBin rIxE (dBin rIxE (dVar 0) (dC (.int 2))) (dVar 3)) (dVar 2) (dBin rIxE (dVar 0) (dC (.int 1)))) dNext)
    (dSeq (dIf (dB (dBin (rEqD' false) (dBin rIxE (dVar 0) (dC (.int 0))) (dC (.str "join")))) (dSetIx rSetIxE (dBin rIxE (dBin rIxE (dBin rIxE (dVar 0) (dC (.int 3))) (dVar 3)) (dBin rIxE (dVar 1) (dBin rIxE (dVar 0) (dC (.int 2))))) (dVar 2) (dBin rIxE (dVar 0) (dC (.int 1)))) dNext)
    (dSeq (dIf (dB (dBin (rEqD' false) (dBin rIxE (dVar 0) (dC (.int 0))) (dC (.str "move")))) (dSetIx rSetIxE (dBin rIxE (dVar 1) (dBin rIxE (dVar 0) (dC (.int 2)))) (dVar 2) (dBin rIxE (dVar 0) (dC (.int 1)))) dNext)
    (dSeq (dIf (dB (dBin (rEqD' false) (dBin rIxE (dVar 0) (dC (.int 0))) (dC (.str "put")))) (dSetIx rSetIxE (dBin rIxE (dVar 0) (dC (.int 2))) (dVar 2) (dBin rIxE (dVar 0) (dC (.int 1)))) dNext)
    (dRet (dCB rTupleD (dCons (dVar 2) dNil)))))))))
/-! slots of _law_begins: 0 machine, 1 word, 2 k -/
def b__law_begins (E : DXE) : DTS :=
    (dSeq (dIf (dB (dBin (rEqD' false) (dBin rIxE (dVar 0) (dC (.int 1))) (dC (.int 1)))) (dRet (dNewV (dLc (dRg1 (dCons (dBin rIxE (dVar 0) (dC (.int 0))) dNil)) (.name 1) [1] dYes (dTup (dCons (dVar 1) dNil))))) dNext)
    (dRet (dNewV (dLc (dRg1 (dCons (dBin rMulD (dBin rIxE (dVar 0) (dC (.int 0))) (dBin rIxE (dVar 0) (dC (.int 0)))) dNil)) (.name 2) [2] dYes (dTup (dCons (dBin rDivI (dVar 2) (dBin rIxE (dVar 0) (dC (.int 0)))) (dCons (dBin rModI (dVar 2) (dBin rIxE (dVar 0) (dC (.int 0)))) dNil)))))))
theorem take_mem {α : Type} {l : List α} {n : Nat} {x : α} (h : x ∈ l.take n) : x ∈ l := List.mem_of_mem_take h
theorem pure__law_row : ∀ ds h Q E, p__law_row ds h Q E → dFn 7 b__law_row ds h Q E := by
  rintro ds h Q E ⟨p, cc, n, most, m, rfl, k, hm, hp, hn, q⟩
  have hb : BIG = 4294967296 := rfl
  have d1 := k.d1
  have d6 := k.d6
  unfold b__law_row
  walk_at "st"
  refine take_call (many := 4) hp (by omega) (by omega) (by omega) fun kind h1 hk p1 b1 => ?_
  walk_at "st"
  have key : ∀ (many : Nat) (h2 : DH) (R : List D → DH → Prop), many ≤ most → PenAt h2 p cc (n + 2) → But p h h2 → (∀ (ys : List Nat) (h' : DH), ys.length = many → (∀ y ∈ ys, y < m.ds.length) → PenAt h' p cc (n + 2 + many) → But p h h' → R (natsD ys) h') →
      RgI (many : Int) ∧ dComp (.name 6) [6] dYes (dCall p__law_take 2 X0 (dCons (dVar 0) (dCons (dCB rLenE (dCons (dBin rIxE (dVar 1) (dC (.int 2))) dNil)) dNil))) (fun _ => True) [some (.ref p), some m.enc, some (nD most), some (nD kind), some (nD many), none, none] R (intsD 0 (many : Int).toNat) [] h2 := fun many h2 R hmm p2 b2 fin => by
    refine ⟨rg_ok (by omega), ?_⟩
    rw [Int.toNat_natCast]
    refine comp_draw (α := Nat) (enc := nD) (P := fun y => y < m.ds.length) (c := 1) p2 (by rw [intsD_len]; omega) (by rw [intsD_len]; exact small_size (by omega)) (fun x hx h' i K pm hi bm k => ?_) fun ys h' hl hP pn bn => ?_
    · k_call_by "st" Mach.enc
      have el : ((m.ds.map Deed.enc).length : Int) = (m.ds.length : Nat) := by simp
      rw [el]
      exact take_call pm (by omega) (by omega) (by omega) fun r h2 hr a b => k r h2 hr a b
    · rw [intsD_len] at hl pn
      exact fin ys h' hl hP (pn.mono (by omega)) (b2.trans bn)
  have fin : ∀ (many : Nat) (ys : List Nat) (h' : DH), many ≤ most → ys.length = many → (∀ y ∈ ys, y < m.ds.length) → PenAt h' p cc (n + 2 + many) → But p h h' → iteB (decide ((kind : Int) = 1))
      ((-2 ^ 63 ≤ (many : Int) ∧ (many : Int) < 2 ^ 63 ∧ (cutD (natsD ys) none (some 2)).length * (many : Int).toNat ≤ sizeLine) ∧ wk Q (.frz (cutD (List.replicate (many : Int).toNat (cutD (natsD ys) none (some 2))).flatten none (some (many : Int)))) h')
      (wk Q (rowD ys) h') := fun many ys h' hmm hl hP pn bh => by
    have done : ∀ (r : List Nat), rowOk m r → r.length ≤ most → wk Q (rowD r) h' := fun r hr hrl => wk_of (q r h' hr hrl (pn.mono (by omega)) bh)
    have t2 : cutD (natsD ys) none (some 2) = natsD (ys.take 2) := by
      rw [show (2 : Int) = ((2 : Nat) : Int) from rfl, cut_to]; exact List.map_take.symm
    rw [t2]
    refine iteB_of (fun c => ⟨⟨by omega, by omega, small_size ?_⟩, ?_⟩) fun c => done ys hP (by omega)
    · have h2 : (natsD (ys.take 2)).length ≤ 2 := by simp; omega
      rw [Int.toNat_natCast]
      calc (natsD (ys.take 2)).length * many ≤ 2 * many := Nat.mul_le_mul_right _ h2
        _ ≤ 1000 := by omega
    · have e4 : cutD (List.replicate (many : Int).toNat (natsD (ys.take 2))).flatten none (some (many : Int)) = natsD ((List.replicate many (ys.take 2)).flatten.take many) := by
        rw [cut_to, Int.toNat_natCast]
        show List.take many (List.replicate many ((ys.take 2).map nD)).flatten = ((List.replicate many (ys.take 2)).flatten.take many).map nD
        rw [show ((List.replicate many (ys.take 2)).flatten.take many).map nD = ((List.replicate many (ys.take 2)).flatten.map nD).take many from List.map_take, List.map_flatten, List.map_replicate]
      rw [e4]
      refine done _ (fun x hx => ?_) ?_
      · have := take_mem hx
        rw [List.mem_flatten] at this
        obtain ⟨l, hl1, hl2⟩ := this
        have := List.eq_of_mem_replicate hl1
        subst this
        exact hP x (take_mem hl2)
      · simp; omega
  refine iteB_of (fun c => key most h1 _ (Nat.le_refl _) (p1.mono (by omega)) b1 fun ys h' a1 a2 a3 a4 => fin most ys h' (Nat.le_refl _) a1 a2 a3 a4) fun c => ?_
  rw [show (most : Int) + 1 = ((most + 1 : Nat) : Int) by omega]
  refine take_call p1 (by omega) (by omega) (by omega) fun many h2 hmm p2 b2 => ?_
  walk_at "st"
  exact key many h2 _ (by omega) p2 (b1.trans b2) fun ys h' a1 a2 a3 a4 => fin many ys h' (by omega) a1 a2 a3 a4
theorem pure__law_after : ∀ ds h Q E, p__law_after ds h Q E → dFn 4 b__law_after ds h Q E := by
  rintro ds h Q E ⟨w, pl, d, e, rfl, k, he, q⟩
  unfold b__law_after
  have la : d.at_ < e.length := by rw [he.1]; exact Deed.at_lt k
  have ix : ixN (natsD e).length (d.at_ : Int) = some d.at_ := by
    unfold ixN
    rw [if_pos (by omega), if_pos (by simp; omega)]
    simp
  have es : (natsD e).set d.at_ (nD (d.word e)) = natsD (d.after e) := by
    unfold natsD Deed.after
    rw [List.map_set]
  have fin : ∀ b, h b = none → wk Q (.tup ((natsD e).set d.at_ (nD (d.word e)))) (up (up h b (.lst (natsD e))) b (.lst ((natsD e).set d.at_ (nD (d.word e))))) := fun b nb => by
    rw [es]
    refine wk_s (h' := h) (fun x o z => ?_) q
    have nx := ne_of_up z nb
    rw [up_ne nx, up_ne nx]; exact z
  cases d with
  | turn a t c =>
    have i1 : atI (natsD e) (a : Int) = some (nD (e.getD a 0)) := at_nats la
    have i2 : atI (natsD t) ((e.getD a 0 : Nat) : Int) = some (nD (t.getD (e.getD a 0) 0)) := at_nats (by rw [k.2.1.1]; exact getD_lt la he.2)
    cell_end Deed.enc i1 i2
    exact fun b nb => ⟨_, ix, fin b nb⟩
  | join a o t c =>
    have i1 : atI (natsD e) (a : Int) = some (nD (e.getD a 0)) := at_nats la
    have h1 : e.getD a 0 < w := getD_lt la he.2
    have i3 : atI (natsD e) (o : Int) = some (nD (e.getD o 0)) := at_nats (by rw [he.1]; exact k.2.1)
    have i2 : atI (t.map fun x => D.tup (natsD x)) ((e.getD a 0 : Nat) : Int) = some (.tup (natsD (t.getD (e.getD a 0) []))) := at_map (by rw [k.2.2.1.1]; exact h1)
    have h2 := k.2.2.1.2 (t.getD (e.getD a 0) []) (getD_mem (by rw [k.2.2.1.1]; exact h1))
    have i4 : atI (natsD (t.getD (e.getD a 0) [])) ((e.getD o 0 : Nat) : Int) = some (nD ((t.getD (e.getD a 0) []).getD (e.getD o 0) 0)) := at_nats (by rw [h2.1]; exact getD_lt (by rw [he.1]; exact k.2.1) he.2)
    kpf_say Deed.enc i1 i2 (And.intro i3 i4)
    exact fun b nb => ⟨_, ix, fin b nb⟩
  | move a o c =>
    have i0 : atI (natsD e) (a : Int) = some (nD (e.getD a 0)) := at_nats la
    have i1 : atI (natsD e) (o : Int) = some (nD (e.getD o 0)) := at_nats (by rw [he.1]; exact k.2.1)
    cell_end Deed.enc i0 i1
    exact fun b nb => ⟨_, ix, fin b nb⟩
  | put a x c =>
    have i0 : atI (natsD e) (a : Int) = some (nD (e.getD a 0)) := at_nats la
    k_call_by "st" Deed.enc i0
    exact fun b nb => ⟨_, ix, fin b nb⟩
theorem pure__law_begins : ∀ ds h Q E, p__law_begins ds h Q E → dFn 3 b__law_begins ds h Q E := by
  rintro ds h Q E ⟨m, rfl, k, q⟩
  have h1 := k.p1
  have h2 := k.p2
  have h3 := k.w2
  have h4 := k.w4
  unfold b__law_begins
  k_call_by "st" Mach.enc
  refine iteB_of (fun c => ⟨rg_ok (by omega), ?_⟩) fun c => ⟨mulB (by omega) (by omega) (by omega) (by omega), ?_⟩
  · rw [Int.toNat_natCast]
    refine comp_ints (fun k => .tup [.int k]) trivial (small_size (by omega)) (fun i hi K hK => ?_) (wk_of ?_)
    · walk_at "st"
      exact ⟨by decide, hK⟩
    · have e : ((List.range m.w).map fun (i : Nat) => D.tup [D.int (0 + (i : Int))]) = endsD (begs m) := by
        unfold begs endsD
        rw [if_pos (by have := of_decide_eq_true c; omega), List.map_map]
        apply List.map_congr_left
        intro i _
        simp
      rw [e]; exact q
  · rw [show (m.w : Int) * (m.w : Int) = ((m.w * m.w : Nat) : Int) by simp]
    have hw : m.w * m.w ≤ 16 := Nat.mul_le_mul h4 h4
    refine ⟨rg_ok (by omega), ?_⟩
    rw [Int.toNat_natCast]
    refine comp_ints (fun k => .tup [.int (k / m.w), .int (k % m.w)]) trivial (small_size (by omega)) (fun i hi K hK => ?_) (wk_of ?_)
    · walk_at "st"
      exact ⟨wide_div (b := 100) (by omega) (by omega) (by decide) (by decide), by omega, by decide, hK⟩
    · have e : ((List.range (m.w * m.w)).map fun (i : Nat) => D.tup [D.int ((0 + (i : Int)) / m.w), D.int ((0 + (i : Int)) % m.w)]) = endsD (begs m) := by
        unfold begs endsD
        rw [if_neg (by have := of_decide_eq_false c; omega), List.map_map]
        apply List.map_congr_left
        intro i _
        simp
      rw [e]; exact q
/-! ### all beginnings; what rows do -/
def nextB (w : Nat) (F : List (List Nat)) : List (List Nat) := F.flatMap fun e => (List.range w).map fun j => e ++ [j]
def iterB (w : Nat) : Nat → List (List Nat) → List (List Nat)
  | 0, F => F
  | n + 1, F => iterB w n (nextB w F)
theorem begs_iter {m : Mach} (k : m.ok) : iterB m.w m.pl [[]] = begs m := by
  have key : ∀ w pl : Nat, 2 ≤ w → w ≤ 4 → 1 ≤ pl → pl ≤ 2 → iterB w pl [[]] = if pl = 1 then (List.range w).map fun k => [k] else (List.range (w * w)).map fun k => [k / w, k % w] := fun w pl h1 h2 h3 h4 => by
    have hw : w = 2 ∨ w = 3 ∨ w = 4 := by omega
    have hp : pl = 1 ∨ pl = 2 := by omega
    rcases hw with rfl | rfl | rfl <;> rcases hp with rfl | rfl <;> decide +kernel
  exact key m.w m.pl k.w2 k.w4 k.p1 k.p2
theorem begs_len {m : Mach} (k : m.ok) : (begs m).length ≤ 16 := by
  have h2 := k.w4
  unfold begs
  split
  · simp; omega
  · simp
    exact Nat.mul_le_mul h2 h2
def p_all_beginnings : DSp := fun ds h Q _ => ∃ m : Mach, ds = [m.enc] ∧ m.ok ∧ Q (.frz (endsD (begs m))) h
def p_start_of : DSp := fun ds h Q _ => ∃ m : Mach, ds = [m.enc] ∧ m.ok ∧ Q (.tup (endsD (begs m))) h
def p_led_on : DSp := fun ds h Q _ => ∃ (w pl : Nat) (d : Deed) (es : List (List Nat)), ds = [d.enc, .tup (endsD es)] ∧ d.ok w pl ∧ pl ≤ 1000 ∧ es.length ≤ 1000 ∧ (∀ e ∈ es, endOk w pl e) ∧ Q (.tup (endsD (es.map d.after))) h
def endOf (m : Mach) (r : List Nat) (e : List Nat) : List Nat := r.foldl (fun e i => (m.deed i).after e) e
/-- what a row does -/
def beh (m : Mach) (r : List Nat) : List (List Nat) := (begs m).map (endOf m r)
/-! a list, told or a value -/
def LsAt (h : DH) (d : D) (ds : List D) : Prop := d = .frz ds ∨ ∃ g, d = .ref g ∧ h g = some (.lst ds)
/-- told lists seen as values -/
def seen1 (h : DH) : D → D
  | .ref a => match h a with
    | some (.lst l) => .frz l
    | _ => .ref a
  | d => d
def seen (h : DH) (ds : List D) : List D := ds.map (seen1 h)
theorem seen1_tup {h : DH} {d : D} {l : List D} (e : seen1 h d = .tup l) : d = .tup l := by
  cases d with
  | ref a =>
    simp only [seen1] at e
    split at e
    · exact D.noConfusion e
    · exact D.noConfusion e
  | _ => exact e
theorem seen1_frz {h : DH} {d : D} {l : List D} (e : seen1 h d = .frz l) : LsAt h d l := by
  cases d with
  | ref a =>
    simp only [seen1] at e
    split at e
    · rename_i l' q
      cases e
      exact .inr ⟨a, rfl, q⟩
    · cases e
  | frz l' =>
    cases e
    exact .inl rfl
  | _ => cases e
theorem LsAt.seen {h : DH} {d : D} {l : List D} (a : LsAt h d l) : seen1 h d = .frz l := by
  rcases a with rfl | ⟨g, rfl, e⟩
  · rfl
  · simp only [seen1, e]
theorem seen_two {h : DH} {ds : List D} {m : Mach} {r : List Nat} (e : seen h ds = [m.enc, rowD r]) : ∃ x, ds = [m.enc, x] ∧ LsAt h x (natsD r) := by
  have l := congrArg List.length e
  unfold seen at l e
  rw [List.length_map] at l
  match ds, l, e with
  | [a, b], _, e =>
    simp only [List.map_cons, List.map_nil, List.cons.injEq, and_true] at e
    have ea : a = m.enc := seen1_tup (l := [nD m.w, nD m.pl, .tup (m.ds.map Deed.enc)]) e.1
    rw [ea]
    exact ⟨b, rfl, seen1_frz e.2⟩
theorem two_seen {h : DH} {m : Mach} {x : D} {r : List Nat} (l : LsAt h x (natsD r)) : seen h [m.enc, x] = [m.enc, rowD r] := by
  show [m.enc, seen1 h x] = _
  rw [l.seen]
def p_through : DSp := fun ds h Q _ => ∃ (m : Mach) (r : List Nat), seen h ds = [m.enc, rowD r] ∧ m.ok ∧ rowOk m r ∧ Q (.tup (endsD (beh m r))) h
def p_behaviour : DSp := fun ds h Q E => (∃ (m : Mach) (r : List Nat), ds = [m.enc, rowD r] ∧ m.ok ∧ rowOk m r ∧ r.length ≤ 40 ∧ Q (.tup (endsD (beh m r))) h) ∨ ∃ (dm dr : D) (rf : Rf), ds = [dm, dr] ∧ T dm ∧ T dr ∧ needRow dm dr = some rf ∧ E rf.1 rf.2 h
def p__law_ends : DSp := fun ds h Q _ => ∃ (m : Mach) (r : List Nat), seen h ds = [m.enc, rowD r] ∧ m.ok ∧ rowOk m r ∧ Q (.tup (endsD (beh m r))) h
theorem endOf_ok {m : Mach} (k : m.ok) : ∀ {r e : List Nat}, rowOk m r → endOk m.w m.pl e → endOk m.w m.pl (endOf m r e)
  | [], e, _, he => he
  | i :: r, e, hr, he => endOf_ok k (r := r) (e := (m.deed i).after e) (fun z hz => hr z (List.mem_cons_of_mem _ hz)) (Deed.after_ok (Mach.deed_ok k (hr i (List.mem_cons_self ..))) he)
theorem beh_ok {m : Mach} (k : m.ok) {r : List Nat} (hr : rowOk m r) : ∀ e ∈ beh m r, endOk m.w m.pl e := fun e he => by
  obtain ⟨b, hb, rfl⟩ := List.mem_map.mp he
  exact endOf_ok k hr (begs_ok k b hb)
theorem beh_len {m : Mach} (k : m.ok) {r : List Nat} : (beh m r).length ≤ 16 := by unfold beh; rw [List.length_map]; exact begs_len k
theorem Th_end {e : List Nat} {n : Nat} (hl : e.length ≤ 1000) : Th (n + 1) (endD e) := Th_nats hl
theorem Th_ends {b : List (List Nat)} {n : Nat} (hl : b.length ≤ 1000) (he : ∀ e ∈ b, e.length ≤ 1000) : Th (n + 2) (.tup (endsD b)) := .tup (small_len (by simpa using hl)) fun x hx => by
  obtain ⟨e, h, rfl⟩ := List.mem_map.mp hx
  exact Th_end (he e h)
theorem Th_endsF {b : List (List Nat)} {n : Nat} (hl : b.length ≤ 1000) (he : ∀ e ∈ b, e.length ≤ 1000) : Th (n + 2) (.frz (endsD b)) := .frz (small_len (by simpa using hl)) fun x hx => by
  obtain ⟨e, h, rfl⟩ := List.mem_map.mp hx
  exact Th_end (he e h)
theorem Th_beh {m : Mach} {r : List Nat} {n : Nat} (k : m.ok) (hr : rowOk m r) : Th (n + 2) (.tup (endsD (beh m r))) := Th_ends (Nat.le_trans (beh_len k) (by decide)) fun e he => by
  have := (beh_ok k hr e he).1
  have := k.p2
  omega
theorem asIt_ls {h : DH} {d : D} {ds : List D} {k : List D → (DH → Prop) → Prop} (l : LsAt h d ds) (q : ∀ chk : DH → Prop, (∀ h', LsAt h' d ds → chk h') → k ds chk) : asItE d h k := by
  rcases l with rfl | ⟨g, rfl, e⟩
  · exact q _ fun _ _ => trivial
  · rw [asIt_ref, e]
    exact q _ fun h' l => by
      rcases l with z | ⟨g', z, e'⟩
      · cases z
      · cases z; exact e'
theorem LsAt.sub {h h' : DH} {d : D} {ds : List D} (l : LsAt h d ds) (s : Sub h h') : LsAt h' d ds := by
  rcases l with rfl | ⟨g, rfl, e⟩
  · exact .inl rfl
  · exact .inr ⟨g, rfl, s _ _ e⟩
theorem wk_ls {Q : DK} {h h' : DH} {d : D} {ds : List D} (l : LsAt h' d ds) (n : ∀ g, d = .ref g → h g = none) (s : Sub h h') (q : Q (.frz ds) h) : wk Q d h' := by
  rcases l with rfl | ⟨g, rfl, e⟩
  · exact wk_s s q
  · exact wk_lst e (n g rfl) s q
/-! slots of all_beginnings: 0 machine, 1 found, 2 place, 3 longer, 4 end, 5 word -/
def b_all_beginnings (E : DXE) : DTS :=
    (dSeq (dAsg 1 (dNewV (dLst (dCons (dTup dNil) dNil))))
    (dSeq (dFor (dRg1 (dCons (dBin rIxE (dVar 0) (dC (.int 1))) dNil)) (.name 2) (dSeq (dAsg 3 (dNew (dLst dNil)))
    (dSeq (dFor (dItE (dVar 1)) (.name 4) (dDrop (dMeth rExtD (dVar 3) (dCons (dNewV (dLc (dRg1 (dCons (dBin rIxE (dVar 0) (dC (.int 0))) dNil)) (.name 5) [5] dYes (dBin rAddD (dVar 4) (dTup (dCons (dVar 5) dNil))))) dNil))))
    (dAsg 1 (dVar 3)))))
    (dRet (dVar 1))))
/-! slots of start_of: 0 machine -/
def b_start_of (E : DXE) : DTS :=
    (dRet (dCB rTupleD (dCons (dCall p_all_beginnings 1 E (dCons (dVar 0) dNil)) dNil)))
/-! slots of led_on: 0 deed, 1 here, 2 end -/
def b_led_on (E : DXE) : DTS :=
    (dRet (dLq rTupD (dLc (dItE (dVar 1)) (.name 2) [2] dYes (dCall p_after 2 X0 (dCons (dVar 0) (dCons (dVar 2) dNil))))))
/-! slots of through: 0 machine, 1 row, 2 here, 3 number -/
def b_through (E : DXE) : DTS :=
    (dSeq (dAsg 2 (dCall p_start_of 1 E (dCons (dVar 0) dNil)))
    (dSeq (dFor (dItE (dVar 1)) (.name 3) (dAsg 2 (dCall p_led_on 2 E (dCons (dBin rIxE (dBin rIxE (dVar 0) (dC (.int 2))) (dVar 3)) (dCons (dVar 2) dNil)))))
    (dRet (dVar 2))))
/-! slots of behaviour: 0 machine, 1 row -/
def b_behaviour (E : DXE) : DTS :=
    (dSeq (dDrop (dCall p_need_row 2 E (dCons (dVar 0) (dCons (dVar 1) dNil))))
    (dRet (dCall p_through 2 E (dCons (dVar 0) (dCons (dVar 1) dNil)))))
/-! slots of _law_ends: 0 machine, 1 row, 2 found, 3 end, 4 number -/
def b__law_ends (E : DXE) : DTS :=
    (dSeq (dAsg 2 (dNew (dLst dNil)))
    (dSeq (dFor (dItE (dCall p__law_begins 1 E (dCons (dVar 0) dNil))) (.name 3) (dSeq (dFor (dItE (dVar 1)) (.name 4) (dAsg 3 (dCall p__law_after 2 E (dCons (dBin rIxE (dBin rIxE (dVar 0) (dC (.int 2))) (dVar 4)) (dCons (dVar 3) dNil)))))
    (dDrop (dMeth rAppD (dVar 2) (dCons (dVar 3) dNil)))))
    (dRet (dCB rTupleD (dCons (dVar 2) dNil)))))
theorem pure_all_beginnings : ∀ ds h Q E, p_all_beginnings ds h Q E → dFn 6 b_all_beginnings ds h Q E := by
  rintro ds h Q E ⟨m, rfl, k, q⟩
  have h1 := k.p1
  have h2 := k.p2
  have h3 := k.w2
  have h4 := k.w4
  unfold b_all_beginnings
  k_call_by "st" Mach.enc
  refine ⟨by decide, by decide, rg_ok (by omega), ?_⟩
  rw [Int.toNat_natCast]
  have menc : D.tup [nD m.w, nD m.pl, .tup (m.ds.map Deed.enc)] = m.enc := rfl
  refine loop_inv (fun r env h' => ∃ (F : List (List Nat)) (g : D) (x2 x3 x4 x5 : Option D), env = [some m.enc, some g, x2, x3, x4, x5] ∧ LsAt h' g (endsD F) ∧ (∀ a, g = .ref a → h a = none) ∧ Sub h h' ∧ iterB m.w r.length F = begs m ∧ F.length * 4 ^ r.length ≤ 16 ∧ ∀ e ∈ F, e.length + r.length ≤ 2)
    (fun x r K hK env h' hI => ?_) (fun env h' hI => ?_) _ _ _ ⟨[[]], .frz [.tup []], none, none, none, none, rfl, .inl rfl, (fun _ z => by cases z), Sub.refl, by rw [intsD_len]; exact begs_iter k, by
      rw [intsD_len]
      have : m.pl = 1 ∨ m.pl = 2 := by omega
      rcases this with e | e <;> rw [e] <;> decide, fun e he => by simp at he; subst he; rw [intsD_len]; simp; omega⟩
  · obtain ⟨F, g, x2, x3, x4, x5, rfl, hg, ng, hs, hit, hsz, hel⟩ := hI
    simp only [List.length_cons] at hit hsz
    refine ⟨trivial, ?_⟩
    walk_at "st"
    refine ⟨by decide, fun l nl => ?_⟩
    have nlh : h l = none := by
      cases e : h l with
      | none => rfl
      | some o => rw [hs l o e] at nl; cases nl
    refine asIt_ls (hg.sub (Sub.refl.up nl)) fun chk hchk => ?_
    have fl : F.length ≤ 4 := by
      have : F.length * 4 ≤ F.length * 4 ^ (r.length + 1) := Nat.mul_le_mul_left _ (by rw [Nat.pow_succ]; have : 0 < 4 ^ r.length := Nat.pow_pos (by decide); omega)
      omega
    have keep : ∀ o, LsAt (up h' l o) g (endsD F) := fun o => hg.sub (Sub.refl.up nl)
    refine loop_inv (fun r' env h'' => ∃ (G rest : List (List Nat)) (x4 x5 : Option D), env = [some m.enc, some g, some x, some (.ref l), x4, x5] ∧ r' = endsD rest ∧ h'' = up h' l (.lst (endsD G)) ∧ G ++ nextB m.w rest = nextB m.w F ∧ G.length + 4 * rest.length ≤ 16 ∧ ∀ e ∈ rest, e.length ≤ 2)
      (fun y r' K2 hK2 env h'' hI => ?_) (fun env h'' hI => ?_) _ _ _ ⟨[], F, x4, x5, rfl, rfl, rfl, rfl, by simp; omega, fun e he => by have := hel e he; omega⟩
    · obtain ⟨G, rest, x4, x5, rfl, er, rfl, hG, hsz2, hel2⟩ := hI
      refine ⟨hchk _ (keep _), ?_⟩
      cases rest with
      | nil => cases er
      | cons e rest =>
        simp only [endsD, List.map_cons, List.cons.injEq] at er
        obtain ⟨rfl, rfl⟩ := er
        simp only [List.length_cons] at hsz2
        k_call_by "st" Mach.enc
        refine ⟨rg_ok (by omega), ?_⟩
        rw [Int.toNat_natCast]
        refine comp_ints (fun k => .tup (natsD e ++ [.int k])) trivial (small_size (by omega)) (fun i hi K' hK' => ?_) ?_
        · walk_at "st"
          refine ⟨by decide, small_size ?_, hK'⟩
          have := hel2 e (List.mem_cons_self ..)
          simp; omega
        · have e10 : ((List.range m.w).map fun (i : Nat) => D.tup (natsD e ++ [D.int (0 + (i : Int))])) = endsD ((List.range m.w).map fun j => e ++ [j]) := by
            unfold endsD
            rw [List.map_map]
            apply List.map_congr_left
            intro i _
            simp
          rw [e10]
          walk_at "st"
          have lw : ((List.range m.w).map fun j => e ++ [j]).length ≤ 4 := by simp; exact h4
          refine ⟨small_size (by simp only [List.length_map, List.length_range] at lw ⊢; omega), hK2 _ _ ⟨G ++ (List.range m.w).map fun j => e ++ [j], rest, _, _, rfl, rfl, by rw [up_up]; unfold endsD; rw [List.map_append], ?_, ?_, fun z hz => hel2 z (List.mem_cons_of_mem _ hz)⟩⟩
          · rw [← hG]; simp [nextB]
          · simp only [List.length_append, List.length_map, List.length_range] at lw ⊢; omega
    · obtain ⟨G, rest, x4, x5, rfl, er, rfl, hG, hsz2, hel2⟩ := hI
      refine ⟨hchk _ (keep _), ?_⟩
      cases rest with
      | cons e rest => cases er
      | nil =>
        walk_at "st"
        rw [show nextB m.w [] = [] from rfl, List.append_nil] at hG
        subst hG
        have nl2 : (nextB m.w F).length = F.length * m.w := by
          unfold nextB
          rw [List.length_flatMap]
          simp [List.map_const']
        refine hK _ _ ⟨nextB m.w F, .ref l, _, _, _, _, rfl, .inr ⟨l, rfl, up_same⟩, (fun a z => by cases z; exact nlh), hs.up nl, hit, ?_, fun e he => ?_⟩
        · rw [nl2]
          calc F.length * m.w * 4 ^ r.length ≤ F.length * 4 * 4 ^ r.length := Nat.mul_le_mul_right _ (Nat.mul_le_mul_left _ h4)
            _ = F.length * 4 ^ (r.length + 1) := by rw [Nat.pow_succ, Nat.mul_assoc, Nat.mul_comm 4]
            _ ≤ 16 := hsz
        · unfold nextB at he
          obtain ⟨e0, h0, he⟩ := List.mem_flatMap.mp he
          obtain ⟨j, _, rfl⟩ := List.mem_map.mp he
          have := hel e0 h0
          simp only [List.length_cons] at this
          simp; omega
  · obtain ⟨F, g, x2, x3, x4, x5, rfl, hg, ng, hs, hit, hsz, hel⟩ := hI
    refine ⟨trivial, ?_⟩
    walk_at "st"
    have e : F = begs m := hit
    subst e
    exact wk_ls hg ng hs q
theorem pure_start_of : ∀ ds h Q E, p_start_of ds h Q E → dFn 1 b_start_of ds h Q E := by
  rintro ds h Q E ⟨m, rfl, k, q⟩
  unfold b_start_of
  walk_at "st"
  refine ⟨m, rfl, k, ?_⟩
  walk_at "st"
  exact wk_of q
/-- a comprehension over ends -/
theorem comp_ends {α : Type} {enc : α → D} {j : Nat} {own : List Nat} {te : DTE} {chk : DH → Prop} {env : DEnv} {Q : List D → DH → Prop} {h : DH} {l : List α} (F : α → D) (hc : chk h) (hl : l.length ≤ sizeLine)
    (he : ∀ x ∈ l, ∀ K : DK, K (F x) h → te ((wipeD env own).set j (some (enc x))) h K) (q : Q (l.map F) h) : dComp (.name j) own dYes te chk env Q (l.map enc) [] h := by
  refine comp_inv (fun r acc h' => h' = h ∧ ∃ l1 l2 : List α, l = l1 ++ l2 ∧ r = l2.map enc ∧ acc = l1.map F) (fun x r K hK acc h' hi => ?_) (fun acc h' hi => ?_) _ _ _ ⟨rfl, [], l, rfl, rfl, rfl⟩
  · obtain ⟨rfl, l1, l2, e, er, rfl⟩ := hi
    cases l2 with
    | nil => cases er
    | cons y l2 =>
      simp only [List.map_cons, List.cons.injEq] at er
      obtain ⟨rfl, rfl⟩ := er
      refine ⟨hc, he y (by rw [e]; simp) (fun z h2 => (l1.map F).length < sizeLine ∧ K (l1.map F ++ [z]) h2) ⟨?_, hK _ _ ⟨rfl, l1 ++ [y], l2, by rw [e]; simp, rfl, by simp⟩⟩⟩
      have := congrArg List.length e
      simp at this
      simp; omega
  · obtain ⟨rfl, l1, l2, e, er, rfl⟩ := hi
    cases l2 with
    | cons y l2 => cases er
    | nil =>
      rw [List.append_nil] at e
      subst e
      exact ⟨hc, q⟩
theorem pure_led_on : ∀ ds h Q E, p_led_on ds h Q E → dFn 3 b_led_on ds h Q E := by
  rintro ds h Q E ⟨w, pl, d, es, rfl, k, hpl, hl, he, q⟩
  unfold b_led_on
  walk_at "st"
  refine comp_ends (fun e => endD (d.after e)) trivial (small_size hl) (fun x hx K hK => ?_) (wk_of ?_)
  · walk_at "st"
    exact ⟨w, pl, d, x, rfl, k, hpl, he x hx, hK⟩
  · rw [show (es.map fun e => endD (d.after e)) = endsD (es.map d.after) by unfold endsD; rw [List.map_map]; rfl]
    exact q
theorem endOf_snoc {m : Mach} {r : List Nat} {i : Nat} {e : List Nat} : endOf m (r ++ [i]) e = (m.deed i).after (endOf m r e) := by
  unfold endOf
  rw [List.foldl_append]
  rfl
theorem pure_through : ∀ ds h Q E, p_through ds h Q E → dFn 4 b_through ds h Q E := by
  rintro ds h Q E ⟨m, r, es, k, hr, q⟩
  obtain ⟨x, rfl, lx⟩ := seen_two es
  have h2 := k.p2
  unfold b_through
  walk_at "st"
  refine ⟨m, rfl, k, ?_⟩
  walk_at "st"
  refine asIt_ls lx fun chk hchk => ?_
  refine loop_inv (fun r' env h' => ∃ (l1 l2 : List Nat) (x3 : Option D), env = [some m.enc, some x, some (.tup (endsD (beh m l1))), x3] ∧ h' = h ∧ r' = natsD l2 ∧ l1 ++ l2 = r) (fun y r' K hK env h' hI => ?_) (fun env h' hI => ?_) _ _ _ ⟨[], r, none, ?_, rfl, rfl, rfl⟩
  · obtain ⟨l1, l2, x3, rfl, rfl, er, e⟩ := hI
    refine ⟨hchk _ lx, ?_⟩
    cases l2 with
    | nil => cases er
    | cons i l2 =>
      simp only [natsD, List.map_cons, List.cons.injEq] at er
      obtain ⟨rfl, rfl⟩ := er
      have hi : i < m.ds.length := hr i (by rw [← e]; simp)
      have hr1 : rowOk m l1 := fun z hz => hr z (by rw [← e]; simp [hz])
      k_call_by "st" Mach.enc (Mach.at_deed hi)
      refine ⟨m.w, m.pl, m.deed i, beh m l1, rfl, Mach.deed_ok k hi, by omega, Nat.le_trans (beh_len k) (by decide), beh_ok k hr1, ?_⟩
      refine hK _ _ ⟨l1 ++ [i], l2, some (nD i), ?_, rfl, rfl, by rw [← e]; simp⟩
      have e2 : (beh m l1).map (m.deed i).after = beh m (l1 ++ [i]) := by
        unfold beh
        rw [List.map_map]
        apply List.map_congr_left
        intro z _
        exact endOf_snoc.symm
      rw [e2]
      rfl
  · obtain ⟨l1, l2, x3, rfl, rfl, er, e⟩ := hI
    refine ⟨hchk _ lx, ?_⟩
    cases l2 with
    | cons i l2 => cases er
    | nil =>
      rw [List.append_nil] at e
      subst e
      walk_at "st"
      exact wk_of q
  · have : beh m [] = begs m := by unfold beh endOf; simp
    rw [this]
theorem pure_behaviour : ∀ ds h Q E, p_behaviour ds h Q E → dFn 2 b_behaviour ds h Q E := by
  rintro ds h Q E (⟨m, r, rfl, k, hr, hl, q⟩ | ⟨dm, dr, rf, rfl, tm, tr, no, q⟩)
  · unfold b_behaviour
    walk_at "st"
    exact row_ok k hr hl ⟨m, r, rfl, k, hr, wk_of q⟩
  · unfold b_behaviour
    walk_at "st"
    exact ⟨_, _, _, rfl, .inl rfl, tm, tr, by rw [no]; exact wkX_of q⟩
theorem pure__law_ends : ∀ ds h Q E, p__law_ends ds h Q E → dFn 5 b__law_ends ds h Q E := by
  rintro ds h Q E ⟨m, r, es, k, hr, q⟩
  obtain ⟨x, rfl, lx⟩ := seen_two es
  have h2 := k.p2
  unfold b__law_ends
  walk_at "st"
  refine ⟨by decide, fun f nf => ?_⟩
  refine ⟨m, rfl, k, ?_⟩
  walk_at "st"
  refine loop_inv (fun r' env h' => ∃ (l1 l2 : List (List Nat)) (x3 x4 : Option D), env = [some m.enc, some x, some (.ref f), x3, x4] ∧ r' = endsD l2 ∧ l1 ++ l2 = begs m ∧ h' = up h f (.lst (endsD (l1.map (endOf m r)))))
    (fun z r' K hK env h' hI => ?_) (fun env h' hI => ?_) _ _ _ ⟨[], begs m, none, none, rfl, rfl, rfl, rfl⟩
  · obtain ⟨l1, l2, x3, x4, rfl, er, e, rfl⟩ := hI
    refine ⟨trivial, ?_⟩
    cases l2 with
    | nil => cases er
    | cons b l2 =>
      simp only [endsD, List.map_cons, List.cons.injEq] at er
      obtain ⟨rfl, rfl⟩ := er
      have hb : endOk m.w m.pl b := begs_ok k b (by rw [← e]; simp)
      have hlen : l1.length < 100 := by
        have := congrArg List.length e
        have := begs_len k
        simp at *
        omega
      walk_at "st"
      have lx2 : ∀ o, LsAt (up h f o) x (natsD r) := fun o => lx.sub (Sub.refl.up nf)
      refine asIt_ls (lx2 _) fun chk hchk => ?_
      refine loop_inv (fun r'' env h'' => ∃ (d1 d2 : List Nat) (x4 : Option D), env = [some m.enc, some x, some (.ref f), some (endD (endOf m d1 b)), x4] ∧ h'' = up h f (.lst (endsD (l1.map (endOf m r)))) ∧ r'' = natsD d2 ∧ d1 ++ d2 = r) (fun y r'' K2 hK2 env h'' hI => ?_) (fun env h'' hI => ?_) _ _ _ ⟨[], r, x4, rfl, rfl, rfl, rfl⟩
      · obtain ⟨d1, d2, x4, rfl, rfl, er, e2⟩ := hI
        refine ⟨hchk _ (lx2 _), ?_⟩
        cases d2 with
        | nil => cases er
        | cons i d2 =>
          simp only [natsD, List.map_cons, List.cons.injEq] at er
          obtain ⟨rfl, rfl⟩ := er
          have hi : i < m.ds.length := hr i (by rw [← e2]; simp)
          have hr1 : rowOk m d1 := fun z hz => hr z (by rw [← e2]; simp [hz])
          k_call_by "st" Mach.enc (Mach.at_deed hi)
          refine ⟨m.w, m.pl, m.deed i, endOf m d1 b, rfl, Mach.deed_ok k hi, endOf_ok k hr1 hb, ?_⟩
          refine hK2 _ _ ⟨d1 ++ [i], d2, some (nD i), ?_, rfl, rfl, by rw [← e2]; simp⟩
          rw [endOf_snoc]
          rfl
      · obtain ⟨d1, d2, x4, rfl, rfl, er, e2⟩ := hI
        refine ⟨hchk _ (lx2 _), ?_⟩
        cases d2 with
        | cons i d2 => cases er
        | nil =>
          rw [List.append_nil] at e2
          subst e2
          walk_at "st"
          exact ⟨by simp; exact Nat.lt_of_lt_of_le hlen (by decide), hK _ _ ⟨l1 ++ [b], l2, _, _, rfl, rfl, by rw [← e]; simp, by rw [up_up]; simp⟩⟩
  · obtain ⟨l1, l2, x3, x4, rfl, er, e, rfl⟩ := hI
    refine ⟨trivial, ?_⟩
    cases l2 with
    | cons b l2 => cases er
    | nil =>
      rw [List.append_nil] at e
      subst e
      walk_at "st"
      exact wk_drop nf q
/-! ### costs, beginnings told; runs joined -/
def rowCost (m : Mach) (r : List Nat) : Nat := (r.map fun i => (m.deed i).cost).sum
def p_beginnings : DSp := fun ds h Q E => (∃ m : Mach, ds = [m.enc] ∧ m.ok ∧ Q (.frz (endsD (begs m))) h) ∨ ∃ d, ds = [d] ∧ T d ∧ isMach d = false ∧ E rfMachine.1 rfMachine.2 h
def p_cost : DSp := fun ds h Q E => (∃ (m : Mach) (r : List Nat), seen h ds = [m.enc, rowD r] ∧ m.ok ∧ rowOk m r ∧ r.length ≤ 40 ∧ Q (nD (rowCost m r)) h) ∨ ∃ (dm dr : D) (rf : Rf), ds = [dm, dr] ∧ T dm ∧ T dr ∧ needRow dm dr = some rf ∧ E rf.1 rf.2 h
def p_price_of : DSp := fun ds h Q _ => ∃ (m : Mach) (r : List Nat), seen h ds = [m.enc, rowD r] ∧ rowOk m r ∧ r.length ≤ 100000 ∧ Q (nD (rowCost m r)) h
/-! slots of beginnings: 0 machine -/
def b_beginnings (E : DXE) : DTS :=
    (dSeq (dDrop (dCall p_need_machine 1 E (dCons (dVar 0) dNil)))
    (dRet (dCall p_all_beginnings 1 E (dCons (dVar 0) dNil))))
/-! slots of cost: 0 machine, 1 row, 2 number -/
def b_cost (E : DXE) : DTS :=
    (dSeq (dDrop (dCall p_need_row 2 E (dCons (dVar 0) (dCons (dVar 1) dNil))))
    (dRet (dLq rSumD (dLc (dItE (dVar 1)) (.name 2) [2] dYes (dBin rIxE (dBin rIxE (dBin rIxE (dVar 0) (dC (.int 2))) (dVar 2)) (dUn rNegI (dC (.int 1))))))))
/-! slots of price_of: 0 machine, 1 row, 2 number -/
def b_price_of (E : DXE) : DTS :=
    (dRet (dLq rSumD (dLc (dItE (dVar 1)) (.name 2) [2] dYes (dBin rIxE (dBin rIxE (dBin rIxE (dVar 0) (dC (.int 2))) (dVar 2)) (dUn rNegI (dC (.int 1)))))))
theorem pure_beginnings : ∀ ds h Q E, p_beginnings ds h Q E → dFn 1 b_beginnings ds h Q E := by
  rintro ds h Q E (⟨m, rfl, k, q⟩ | ⟨d, rfl, t, i, q⟩)
  rotate_left
  · unfold b_beginnings
    walk_at "st"
    exact ⟨t, (fun z => by rw [i] at z; cases z), fun _ => wkX_of q⟩
  unfold b_beginnings
  walk_at "st"
  refine mach_ok k ?_
  walk_at "st"
  exact ⟨m, rfl, k, wk_of q⟩
theorem Deed.enc_cost {d : Deed} {h : DH} {Q : DK} (q : Q (nD d.cost) h) : rIxE d.enc (.int (-1)) h Q := by cases d <;> exact q
theorem nat_sum {α : Type} {f : α → Nat} : ∀ l : List α, (l.map fun x => ((f x : Nat) : Int)).sum = (((l.map f).sum : Nat) : Int)
  | [] => rfl
  | x :: l => by rw [List.map_cons, List.sum_cons, nat_sum l, List.map_cons, List.sum_cons]; omega
theorem price_comp {m : Mach} {r : List Nat} {x : Option D} {chk : DH → Prop} {h : DH} {Q : DK} {x2 : Option D} (hc : chk h) (hr : rowOk m r) (hl : r.length ≤ 100000) (q : Q (nD (rowCost m r)) h) : dComp (.name 2) [2] dYes (dBin rIxE (dBin rIxE (dBin rIxE (dVar 0) (dC (.int 2))) (dVar 2)) (dC (.int (-1)))) chk [some m.enc, x, x2] (fun ds h1 => rSumD ds h1 Q) (natsD r) [] h := by
  refine comp_ends (enc := nD) (fun i => nD (m.deed i).cost) hc (Nat.le_trans hl (by decide)) (fun i hi K hK => ?_) ?_
  · k_call_by "st" Mach.enc (Mach.at_deed (hr i hi))
    exact Deed.enc_cost hK
  · refine ⟨r.map fun i => (((m.deed i).cost : Nat) : Int), by rw [List.map_map]; rfl, ?_⟩
    rw [nat_sum]
    exact q
theorem pure_cost : ∀ ds h Q E, p_cost ds h Q E → dFn 3 b_cost ds h Q E := by
  rintro ds h Q E (⟨m, r, es, k, hr, hl, q⟩ | ⟨dm, dr, rf, rfl, tm, tr, no, q⟩)
  rotate_left
  · unfold b_cost
    walk_at "st"
    exact ⟨_, _, _, rfl, .inl rfl, tm, tr, by rw [no]; exact wkX_of q⟩
  obtain ⟨x, rfl, lx⟩ := seen_two es
  have lv : Lv h x (rowD r) := by
    rcases lx with z | ⟨a, z1, z2⟩
    · exact .inl z
    · exact .inr ⟨a, _, z1, z2, rfl⟩
  unfold b_cost
  walk_at "st"
  refine ⟨_, x, rowD r, rfl, lv, T_mach k, (Th_row (n := 1) (by omega)).mono (by decide), ?_⟩
  rw [needRow_ok k hr hl, refOr_none]
  refine asIt_ls lx fun chk hchk => ?_
  exact price_comp (hchk _ lx) hr (by omega) (wk_of q)
theorem pure_price_of : ∀ ds h Q E, p_price_of ds h Q E → dFn 3 b_price_of ds h Q E := by
  rintro ds h Q E ⟨m, r, es, hr, hl, q⟩
  obtain ⟨x, rfl, lx⟩ := seen_two es
  unfold b_price_of
  walk_at "st"
  refine asIt_ls lx fun chk hchk => ?_
  exact price_comp (hchk _ lx) hr hl (wk_of q)
theorem runL_append {m : Mach} : ∀ (r1 r2 e : List Nat), runL m (r1 ++ r2) e = runL m r1 e ++ (runL m r2 (endOf m r1 e)).tail
  | [], r2, e => by
    show runL m r2 e = [e] ++ (runL m r2 e).tail
    cases r2 <;> rfl
  | i :: r1, r2, e => by
    show e :: runL m (r1 ++ r2) ((m.deed i).after e) = e :: runL m r1 ((m.deed i).after e) ++ (runL m r2 (endOf m r1 ((m.deed i).after e))).tail
    rw [runL_append r1 r2]
    rfl
theorem runL_last {m : Mach} : ∀ (r e : List Nat), ∃ l, runL m r e = l ++ [endOf m r e]
  | [], e => ⟨[], rfl⟩
  | i :: r, e => by
    obtain ⟨l, h⟩ := runL_last (m := m) r ((m.deed i).after e)
    refine ⟨e :: l, ?_⟩
    show e :: runL m r ((m.deed i).after e) = _
    rw [h]
    rfl
theorem runL_head {m : Mach} (r e : List Nat) : ∃ l, runL m r e = e :: l := by cases r <;> exact ⟨_, rfl⟩
theorem last_runs {m : Mach} {r e : List Nat} : atI (endsD (runL m r e)) (-1) = some (endD (endOf m r e)) := by
  obtain ⟨l, h⟩ := runL_last (m := m) r e
  rw [h]
  unfold endsD
  rw [List.map_append]
  exact atI_last
theorem rowCost_append {m : Mach} {r1 r2 : List Nat} : rowCost m (r1 ++ r2) = rowCost m r1 + rowCost m r2 := by
  unfold rowCost
  rw [List.map_append, List.sum_append]
theorem runL_len {m : Mach} : ∀ (r e : List Nat), (runL m r e).length = r.length + 1
  | [], _ => rfl
  | i :: r, e => by unfold runL; rw [List.length_cons, runL_len r, List.length_cons]
theorem runL_ok {m : Mach} (k : m.ok) : ∀ {r e : List Nat}, rowOk m r → endOk m.w m.pl e → ∀ x ∈ runL m r e, endOk m.w m.pl x
  | [], e, _, he, x, hx => by simp [runL] at hx; rw [hx]; exact he
  | i :: r, e, hr, he, x, hx => by
    unfold runL at hx
    rcases List.mem_cons.mp hx with rfl | hx
    · exact he
    · exact runL_ok k (fun z hz => hr z (List.mem_cons_of_mem _ hz)) (Deed.after_ok (Mach.deed_ok k (hr i (List.mem_cons_self ..))) he) x hx
theorem rowOk_append {m : Mach} {r1 r2 : List Nat} (a : rowOk m r1) (b : rowOk m r2) : rowOk m (r1 ++ r2) := fun x hx => by
  rcases List.mem_append.mp hx with z | z
  · exact a x z
  · exact b x z
/-! ### machines are told by their data -/
theorem nats_inj {x y : List Nat} (e : natsD x = natsD y) : x = y := by
  induction x generalizing y with
  | nil =>
    cases y with
    | nil => rfl
    | cons _ _ => cases e
  | cons a x ih =>
    cases y with
    | nil => cases e
    | cons b y =>
      simp only [natsD, List.map_cons, List.cons.injEq, D.int.injEq] at e
      rw [ih e.2, show a = b by omega]
theorem tabs_inj {x y : List (List Nat)} (e : x.map (fun z => D.tup (natsD z)) = y.map fun z => D.tup (natsD z)) : x = y := by
  induction x generalizing y with
  | nil =>
    cases y with
    | nil => rfl
    | cons _ _ => cases e
  | cons a x ih =>
    cases y with
    | nil => cases e
    | cons b y =>
      simp only [List.map_cons, List.cons.injEq, D.tup.injEq] at e
      rw [ih e.2, nats_inj e.1]
theorem Deed.inj {d e : Deed} (h : d.enc = e.enc) : d = e := by
  have s1 : ("turn" : Str) ≠ "move" := by decide +kernel
  have s2 : ("turn" : Str) ≠ "put" := by decide +kernel
  have s3 : ("move" : Str) ≠ "put" := by decide +kernel
  cases d <;> cases e <;> simp only [Deed.enc, D.tup.injEq, List.cons.injEq, D.str.injEq, D.int.injEq, and_true, true_and] at h
  · rw [nats_inj h.2.1]
    congr 1 <;> omega
  all_goals first
    | exact absurd h.1 s1
    | exact absurd h.1 s2
    | exact absurd h.1 s3
    | exact absurd h.1.symm s1
    | exact absurd h.1.symm s2
    | exact absurd h.1.symm s3
    | (congr 1 <;> omega)
    | (rw [tabs_inj h.2.2.1]; congr 1 <;> omega)
    | (exact absurd h.2.2.2.2 (by simp))
theorem Mach.inj {m m' : Mach} (h : m.enc = m'.enc) : m = m' := by
  unfold Mach.enc at h
  simp only [D.tup.injEq, List.cons.injEq, D.int.injEq, and_true] at h
  obtain ⟨w, pl, l⟩ := m
  obtain ⟨w', pl', l'⟩ := m'
  obtain ⟨h1, h2, h3⟩ := h
  have e3 : l = l' := by
    dsimp only at h3
    clear h1 h2
    induction l generalizing l' with
    | nil =>
      cases l' with
      | nil => rfl
      | cons _ _ => cases h3
    | cons a x ih =>
      cases l' with
      | nil => cases h3
      | cons b y =>
        simp only [List.map_cons, List.cons.injEq] at h3
        rw [ih _ h3.2, Deed.inj h3.1]
  dsimp only at h1 h2
  rw [e3, show w = w' by omega, show pl = pl' by omega]
/-! ### rows in data, for rules that may be refused -/
def toN : D → Nat
  | .int i => i.toNat
  | _ => 0
def rowOf (n : Nat) : D → Option (List Nat)
  | .frz ds => (match rowL n ds with
    | none => some (ds.map toN)
    | some _ => none)
  | _ => none
theorem toN_nats {r : List Nat} : (natsD r).map toN = r := by
  rw [natsD, List.map_map]
  conv => rhs; rw [← List.map_id r]
  rfl
theorem rowL_nats {m : Mach} {r : List Nat} (o : rowOk m r) (l : r.length ≤ 40) : rowL m.ds.length (natsD r) = none := by
  unfold rowL
  rw [firstBad_nats o]
  simp
  omega
theorem rowOf_ok {m : Mach} {r : List Nat} (o : rowOk m r) (l : r.length ≤ 40) : rowOf m.ds.length (rowD r) = some r := by
  simp only [rowOf, rowL_nats o l, toN_nats]
theorem rowL_none {m : Mach} {ds : List D} (e : rowL m.ds.length ds = none) : ∃ r, ds = natsD r ∧ rowOk m r ∧ r.length ≤ 40 := by
  unfold rowL at e
  split at e
  · cases e
  · rename_i fb
    split at e
    · cases e
    · rename_i l
      obtain ⟨r, rfl, hr⟩ := map_dec (f := nD) (P := fun i => i < m.ds.length) (l := ds) fun x hx => by
        obtain ⟨n, rfl, _, b⟩ := isIn_dec (firstBad_none fb x hx) (by omega)
        exact ⟨n, by omega, rfl⟩
      exact ⟨r, rfl, hr, by rw [List.length_map] at l; omega⟩
theorem rowOf_some {m : Mach} {d : D} {r : List Nat} (e : rowOf m.ds.length d = some r) : d = rowD r ∧ rowOk m r ∧ r.length ≤ 40 := by
  cases d with
  | frz ds =>
    simp only [rowOf] at e
    split at e
    · rename_i z
      obtain ⟨r', rfl, o, l⟩ := rowL_none z
      rw [toN_nats] at e
      cases e
      exact ⟨rfl, o, l⟩
    · cases e
  | _ => cases e
def holdsB (m : Mach) (d1 d2 : D) : Bool := match rowOf m.ds.length d1, rowOf m.ds.length d2 with
  | some r1, some r2 => decide (beh m r1 = beh m r2)
  | _, _ => false
/-- the first rule that does not hold -/
def firstNo (m : Mach) : List (D × D) → Nat → Option Nat
  | [], _ => none
  | r :: rs, j => if holdsB m r.1 r.2 = true then firstNo m rs (j + 1) else some j
theorem firstNo_ok {m : Mach} : ∀ {rs : List (D × D)} {j : Nat}, (∀ r ∈ rs, holdsB m r.1 r.2 = true) → firstNo m rs j = none
  | [], _, _ => rfl
  | r :: rs, j, a => by
    rw [firstNo, if_pos (a r (List.mem_cons_self ..))]
    exact firstNo_ok fun x hx => a x (List.mem_cons_of_mem _ hx)
def rfRule (i : Int) : Rf := ("NoRule", [("number", i)])
def rfStep (i : Int) : Rf := ("NoStep", [("place", i)])
def rulesRef (m : Mach) (rs : List (D × D)) : Option Rf := (firstNo m rs 0).map fun j => rfRule j
/-! ### the law's own look at machines -/
def isNums (many lo hi : Int) : D → Bool
  | .tup ds => decide ((ds.length : Int) = many) && ds.all (isIn lo hi)
  | _ => false
def p__law_is_whole : DSp
  | [d], h, Q, _ => Kn d ∧ Q (.bl (isInt d)) h
  | _, _, _, _ => False
def p__law_is_in : DSp
  | [d, .int a, .int b], h, Q, _ => Kn d ∧ Q (.bl (isIn a b d)) h
  | _, _, _, _ => False
def p__law_numbers : DSp
  | [d, .int many, .int lo, .int hi], h, Q, _ => T d ∧ Q (.bl (isNums many lo hi d)) h
  | _, _, _, _ => False
def p__law_is_deed : DSp
  | [d, .int w, .int pl], h, Q, _ => T d ∧ Q (.bl (isDeed w pl d)) h
  | _, _, _, _ => False
def p__law_is_machine : DSp
  | [d], h, Q, _ => T d ∧ Q (.bl (isMach d)) h
  | _, _, _, _ => False
/-! slots of _law_is_whole: 0 thing -/
def b__law_is_whole (E : DXE) : DTS :=
    (dRet (dAndV (dIsi "int" (dVar 0)) (dNotV (dIsi "bool" (dVar 0)))))
/-! slots of _law_is_in: 0 thing, 1 low, 2 high -/
def b__law_is_in (E : DXE) : DTS :=
    (dRet (dAndV (dCall p__law_is_whole 1 E (dCons (dVar 0) dNil)) (dChain rLeI rLeI (dVar 1) (dVar 0) (dVar 2))))
/-! slots of _law_numbers: 0 thing, 1 many, 2 low, 3 high, 4 one -/
def b__law_numbers (E : DXE) : DTS :=
    (dSeq (dIf (dOr (dNot (dB (dIsi "tuple" (dVar 0)))) (dB (dBin (rEqD' true) (dCB rLenE (dCons (dVar 0) dNil)) (dVar 1)))) (dRet (dC (.bl false))) dNext)
    (dRet (dBin (rEqD' false) (dNewV (dLc (dItE (dVar 0)) (.name 4) [4] (dNot (dB (dCall p__law_is_in 3 X0 (dCons (dVar 4) (dCons (dVar 2) (dCons (dVar 3) dNil)))))) (dC (.int 1)))) (dNewV (dLst dNil)))))
/-! slots of _law_is_deed: 0 thing, 1 words, 2 places, 3 one -/
def b__law_is_deed (E : DXE) : DTS :=
    (dSeq (dIf (dOr (dNot (dB (dIsi "tuple" (dVar 0)))) (dB (dBin (rInE true) (dCB rLenE (dCons (dVar 0) dNil)) (dTup (dCons (dC (.int 4)) (dCons (dC (.int 5)) dNil)))))) (dRet (dC (.bl false))) dNext)
    (dSeq (dIf (dOr (dB (dBin (rInE true) (dBin rIxE (dVar 0) (dC (.int 0))) (dTup (dCons (dC (.str "turn")) (dCons (dC (.str "join")) (dCons (dC (.str "move")) (dCons (dC (.str "put")) dNil))))))) (dB (dBin (rEqD' true) (dBin (rEqD' false) (dCB rLenE (dCons (dVar 0) dNil)) (dC (.int 5))) (dBin (rEqD' false) (dBin rIxE (dVar 0) (dC (.int 0))) (dC (.str "join")))))) (dRet (dC (.bl false))) dNext)
    (dSeq (dIf (dOr (dNot (dB (dCall p__law_numbers 4 E (dCons (dTup (dCons (dBin rIxE (dVar 0) (dC (.int 1))) dNil)) (dCons (dC (.int 1)) (dCons (dC (.int 0)) (dCons (dBin rSubI (dVar 2) (dC (.int 1))) dNil))))))) (dNot (dB (dCall p__law_is_in 3 E (dCons (dBin rIxE (dVar 0) (dUn rNegI (dC (.int 1)))) (dCons (dC (.int 1)) (dCons (dC (.int 3)) dNil))))))) (dRet (dC (.bl false))) dNext)
    (dSeq (dIf (dB (dBin (rEqD' false) (dBin rIxE (dVar 0) (dC (.int 0))) (dC (.str "turn")))) (dRet (dCall p__law_numbers 4 E (dCons (dBin rIxE (dVar 0) (dC (.int 2))) (dCons (dVar 1) (dCons (dC (.int 0)) (dCons (dBin rSubI (dVar 1) (dC (.int 1))) dNil)))))) dNext)
    (dSeq (dIf (dB (dBin (rEqD' false) (dBin rIxE (dVar 0) (dC (.int 0))) (dC (.str "put")))) (dRet (dCall p__law_is_in 3 E (dCons (dBin rIxE (dVar 0) (dC (.int 2))) (dCons (dC (.int 0)) (dCons (dBin rSubI (dVar 1) (dC (.int 1))) dNil))))) dNext)
    (dSeq (dIf (dNot (dB (dCall p__law_is_in 3 E (dCons (dBin rIxE (dVar 0) (dC (.int 2))) (dCons (dC (.int 0)) (dCons (dBin rSubI (dVar 2) (dC (.int 1))) dNil)))))) (dRet (dC (.bl false))) dNext)
    (dSeq (dIf (dB (dBin (rEqD' false) (dBin rIxE (dVar 0) (dC (.int 0))) (dC (.str "move")))) (dRet (dC (.bl true))) dNext)
    (dSeq (dIf (dOr (dNot (dB (dIsi "tuple" (dBin rIxE (dVar 0) (dC (.int 3)))))) (dB (dBin (rEqD' true) (dCB rLenE (dCons (dBin rIxE (dVar 0) (dC (.int 3))) dNil)) (dVar 1)))) (dRet (dC (.bl false))) dNext)
    (dRet (dBin (rEqD' false) (dNewV (dLc (dItE (dBin rIxE (dVar 0) (dC (.int 3)))) (.name 3) [3] (dNot (dB (dCall p__law_numbers 4 X0 (dCons (dVar 3) (dCons (dVar 1) (dCons (dC (.int 0)) (dCons (dBin rSubI (dVar 1) (dC (.int 1))) dNil))))))) (dC (.int 1)))) (dNewV (dLst dNil))))))))))))
/-! slots of _law_is_machine: 0 thing, 1 deed -/
def b__law_is_machine (E : DXE) : DTS :=
    (dSeq (dIf (dOr (dNot (dB (dIsi "tuple" (dVar 0)))) (dOr (dB (dBin (rEqD' true) (dCB rLenE (dCons (dVar 0) dNil)) (dC (.int 3)))) (dNot (dB (dCall p__law_is_in 3 E (dCons (dBin rIxE (dVar 0) (dC (.int 0))) (dCons (dC (.int 2)) (dCons (dC (.int 4)) dNil)))))))) (dRet (dC (.bl false))) dNext)
    (dSeq (dIf (dOr (dNot (dB (dCall p__law_is_in 3 E (dCons (dBin rIxE (dVar 0) (dC (.int 1))) (dCons (dC (.int 1)) (dCons (dC (.int 2)) dNil)))))) (dOr (dNot (dB (dIsi "tuple" (dBin rIxE (dVar 0) (dC (.int 2)))))) (dNot (dB (dChain rLeI rLeI (dC (.int 1)) (dCB rLenE (dCons (dBin rIxE (dVar 0) (dC (.int 2))) dNil)) (dC (.int 6))))))) (dRet (dC (.bl false))) dNext)
    (dRet (dBin (rEqD' false) (dNewV (dLc (dItE (dBin rIxE (dVar 0) (dC (.int 2)))) (.name 1) [1] (dNot (dB (dCall p__law_is_deed 3 X0 (dCons (dVar 1) (dCons (dBin rIxE (dVar 0) (dC (.int 0))) (dCons (dBin rIxE (dVar 0) (dC (.int 1))) dNil)))))) (dC (.int 1)))) (dNewV (dLst dNil))))))
theorem pure__law_is_whole : ∀ ds h Q E, p__law_is_whole ds h Q E → dFn 1 b__law_is_whole ds h Q E := pure_is_whole
theorem pure__law_is_in : ∀ ds h Q E, p__law_is_in ds h Q E → dFn 3 b__law_is_in ds h Q E := by
  intro ds h Q E q
  unfold p__law_is_in at q
  split at q
  · obtain ⟨k, q⟩ := q
    unfold b__law_is_in
    walk_at "st"
    refine ⟨k, ?_⟩
    rename_i d a b
    cases d with
    | int i =>
      refine iteB_of (fun c => ?_) fun c => ?_
      · simp only [isIn, c, Bool.true_and] at q; exact wk_of q
      · simp only [isIn, c, Bool.false_and] at q; exact wk_of q
    | _ => exact wk_of q
  · exact q.elim
/-- [1 for x in xs if not f(x)] == [] -/
theorem none_bad {h : DH} {ds : List D} {f : D → Bool} {Q : DK} {g : Tgt} {own : List Nat} {tt : DTT} {chk : DH → Prop} {env : DEnv} (hc : chk h) (hl : ds.length ≤ sizeLine)
    (he : ∀ x ∈ ds, ∀ K : Bool → DH → Prop, K (!f x) h → dTg g x (wipeD env own) fun env' => tt env' h K) (q : Q (.bl (ds.all f)) h) :
    dComp g own tt (dC (.int 1)) chk env (fun ds h1 => 0 ≤ sizeLine ∧ rEqD' false (.frz ds) (.frz []) h1 (wk Q)) ds [] h := by
  refine comp_filter (fun x => !f x) (fun _ => .int 1) hc hl (fun x hx K K2 hK => ?_) ⟨Nat.zero_le _, ?_⟩
  · have z := he x hx (fun b h1 => iteB b (dC (.int 1) (wipeD env own) h1 K) (K2 h1)) ?_
    · exact z
    · cases e : (!f x) with
      | true => rw [e, if_pos rfl] at hK; exact hK
      | false => rw [e, if_neg Bool.false_ne_true] at hK; exact hK
  · have dl : ∀ l : List D, DdL h (l.map fun _ => D.int 1) (l.map fun _ => PyData.int 1) := fun l => by
      induction l with
      | nil => exact .nil
      | cons a l ih => exact .cons (.int 1) ih
    have c1 : (PyData.list ((ds.filter fun x => !f x).map fun _ => .int 1)).canLay0 = true := by
      simp only [PyData.canLay0]
      exact canLayAll_of fun p hp => by obtain ⟨_, _, rfl⟩ := List.mem_map.mp hp; simp [PyData.canLay0]
    have d1 : (PyData.list ((ds.filter fun x => !f x).map fun _ => .int 1)).depth ≤ 64 := by
      simp only [PyData.depth]
      have : PyData.depthAll ((ds.filter fun x => !f x).map fun _ => PyData.int 1) ≤ 0 := depthAll_of fun p hp => by obtain ⟨_, _, rfl⟩ := List.mem_map.mp hp; simp [PyData.depth]
      omega
    refine ⟨_, _, .frz (dl _), .frz .nil, by unfold SeqAt.shaped; rw [c1, decide_eq_true d1]; rfl, by decide, wk_of ?_⟩
    have e : (false ^^ PyData.eqv (.list ((ds.filter fun x => !f x).map fun _ => .int 1)) (.list [])) = ds.all f := by
      simp only [PyData.eqv, Bool.false_xor]
      cases h2 : ds.filter fun x => !f x with
      | nil =>
        simp only [List.map_nil, PyData.eqvAll]
        symm
        rw [List.all_eq_true]
        intro x hx
        have := List.filter_eq_nil_iff.mp h2 x hx
        simpa using this
      | cons y l =>
        simp only [List.map_cons, PyData.eqvAll]
        symm
        have hy : y ∈ ds.filter fun x => !f x := by rw [h2]; exact List.mem_cons_self ..
        rw [List.mem_filter] at hy
        rw [List.all_eq_false]
        exact ⟨y, hy.1, by simpa using hy.2⟩
    rw [e]; exact q
theorem pure__law_numbers : ∀ ds h Q E, p__law_numbers ds h Q E → dFn 5 b__law_numbers ds h Q E := by
  intro ds h Q E q
  unfold p__law_numbers at q
  split at q
  · obtain ⟨t, q⟩ := q
    rename_i d many lo hi
    unfold b__law_numbers
    walk_at "st"
    rw [tyName_eq t.kn]
    cases d with
    | tup ds =>
      walk_at "st"
      refine iteB_of (fun c => ?_) fun c => ?_
      · exact wk_of (by simp at c; simpa [isNums, c] using q)
      · refine none_bad (f := isIn lo hi) trivial t.tup.1 (fun x hx K hK => ?_) (by simp at c; simpa [isNums, c] using q)
        walk_at "st"
        exact ⟨(t.tup.2 x hx).kn, hK⟩
    | _ => exact wk_of q
  · exact q.elim
theorem isNums_one {lo hi : Int} {d : D} : isNums 1 lo hi (.tup [d]) = isIn lo hi d := by simp [isNums]
theorem isNums_tab {w : Int} {d : D} : isNums w 0 (w - 1) d = isTab w d := by cases d <;> rfl
theorem in_data {neg : Bool} {h : DH} {d : D} {es : List D} {p : PyData} {ps : List PyData} {Q : DK} (i : Dd h d p) (s1 : SeqAt.shaped p = true) (j : DdL h es ps) (s2 : SeqAt.shaped (.list ps) = true) (q : Q (.bl (xor neg (ps.any fun z => PyData.eqv z p))) h) : rInD' neg d (.tup es) h Q := by
  cases d <;> exact ⟨p, ps, i, .inr (.tup j), s1, s2, q⟩
theorem notin_45 {h : DH} {n : Int} {Q : DK} (q : Q (.bl (!(decide (n = 4) || decide (n = 5)))) h) : rInD' true (.int n) (.tup [.int 4, .int 5]) h Q := by
  refine in_data (.int n) (by unfold SeqAt.shaped; simp [PyData.canLay0, PyData.depth]) (.cons (.int 4) (.cons (.int 5) .nil)) (by decide) ?_
  have e : (true ^^ [PyData.int 4, .int 5].any fun z => PyData.eqv z (.int n)) = !(decide (n = 4) || decide (n = 5)) := by
    simp only [List.any_cons, List.any_nil, PyData.eqv, Bool.or_false, Bool.true_xor]
    rw [Bool.eq_iff_iff]
    simp
    omega
  rw [e]; exact q
theorem eqv_isS {h : DH} {x : Str} {d : D} {p : PyData} (i : Dd h d p) : PyData.eqv (.str x) p = isS x d := by
  cases i <;> simp [PyData.eqv, isS]
  rw [Bool.eq_iff_iff]
  simp
  exact eq_comm
theorem notin_four {h : DH} {d : D} {Q : DK} (t : T d) (q : Q (.bl (!(isS "turn" d || (isS "join" d || (isS "move" d || isS "put" d))))) h) : rInD' true d (.tup [.str "turn", .str "join", .str "move", .str "put"]) h Q := by
  obtain ⟨i, s⟩ := t.shaped (h := h) (by decide)
  refine in_data i s (.cons (.str _) (.cons (.str _) (.cons (.str _) (.cons (.str _) .nil)))) (by decide +kernel) ?_
  simp only [List.any_cons, List.any_nil, eqv_isS i, Bool.or_false, Bool.true_xor]
  exact q
theorem T.tup9 {ds : List D} (t : T (.tup ds)) : ∀ x ∈ ds, Th 59 x := by
  cases t with
  | tup sz m => exact m
theorem isDeed_long {w pl : Int} {s a x c y z : D} {r : List D} : isDeed w pl (.tup (s :: a :: x :: c :: y :: z :: r)) = false := by
  simp only [isDeed]
  cases isS "turn" s <;> cases isS "join" s <;> cases isS "move" s <;> simp
theorem isDeed_4 {w pl : Int} {s a x c : D} : isDeed w pl (.tup [s, a, x, c]) = (isIn 0 (pl - 1) a && (isIn 1 3 c && (bif isS "turn" s then isTab w x else bif isS "join" s then false else bif isS "move" s then isIn 0 (pl - 1) x else isS "put" s && isIn 0 (w - 1) x))) := by
  simp [isDeed, lastD]
theorem isDeed_5 {w pl : Int} {s a x y c : D} : isDeed w pl (.tup [s, a, x, y, c]) = (isIn 0 (pl - 1) a && (isIn 1 3 c && (isS "join" s && (isIn 0 (pl - 1) x && areTabs w y)))) := by
  simp only [isDeed, lastD, List.length_cons, List.length_nil]
  cases h1 : isS "turn" s with
  | true => rw [(isS_turn h1).1]; simp
  | false =>
    cases h2 : isS "join" s with
    | true => simp
    | false => cases h3 : isS "move" s <;> simp
theorem pure__law_is_deed : ∀ ds h Q E, p__law_is_deed ds h Q E → dFn 4 b__law_is_deed ds h Q E := by
  intro ds h Q E q
  unfold p__law_is_deed at q
  split at q
  · obtain ⟨k, q⟩ := q
    unfold b__law_is_deed
    rename_i d w pl
    walk_at "st"
    rw [tyName_eq k.kn]
    cases d with
    | tup ds =>
      walk_at "st"
      obtain ⟨sz, km⟩ := k.tup
      have k9 := k.tup9
      refine ⟨by decide, notin_45 ?_⟩
      walk_at "st"
      rcases ds with _ | ⟨s, _ | ⟨a, _ | ⟨x, _ | ⟨c, _ | ⟨c2, _ | ⟨z, r⟩⟩⟩⟩⟩⟩
      · exact wk_of q
      · exact wk_of q
      · exact wk_of q
      · exact wk_of q
      · rw [isDeed_4] at q
        have ts := km s (by simp)
        have e4 : decide ((([s, a, x, c] : List D).length : Int) = 4) = true := rfl
        have e5 : decide ((([s, a, x, c] : List D).length : Int) = 5) = false := rfl
        have ta : T (.tup [a]) := Th.tup (small_len (by simp)) fun z hz => by simp at hz; rw [hz]; exact k9 a (by simp)
        rw [e4, e5]
        walk_at "st"
        refine ⟨by decide, notin_four ts ?_⟩
        cases h1 : isS "turn" s with
        | true =>
          obtain ⟨h2, h3, h4⟩ := isS_turn h1
          simp only [h1, h2, h3, h4, cond_true, cond_false] at q
          walk_at "st"
          refine eqS' ts ?_
          rw [h2]
          walk_at "st"
          refine ⟨by decide, ta, ?_⟩
          rw [isNums_one]
          cases h5 : isIn 0 (pl - 1) a with
          | false => rw [h5] at q; exact wk_of q
          | true =>
            rw [h5] at q
            walk_at "st"
            refine ⟨(km c (by simp)).kn, ?_⟩
            cases h6 : isIn 1 3 c with
            | false => rw [h6] at q; exact wk_of q
            | true =>
              rw [h6] at q
              walk_at "st"
              refine eqS' ts ?_
              rw [h1]
              walk_at "st"
              exact ⟨km x (by simp), wk_of (by rw [isNums_tab]; exact q)⟩
        | false =>
          cases h2 : isS "join" s with
          | true =>
            obtain ⟨_, h3, h4⟩ := isS_join h2
            simp only [h1, h2, h3, h4, cond_true, cond_false, Bool.and_false] at q
            walk_at "st"
            refine eqS' ts ?_
            rw [h2]
            exact wk_of q
          | false =>
            have mid : ∀ (G : Prop), (isIn 0 (pl - 1) a = true → isIn 1 3 c = true → G) → (isIn 0 (pl - 1) a = false → Q (.bl false) h) → (isIn 1 3 c = false → isIn 0 (pl - 1) a = true → Q (.bl false) h) → T (.tup [a]) ∧ iteB (!isIn 0 (pl - 1) a) (wk Q (.bl false) h) (Kn c ∧ iteB (!isIn 1 3 c) (wk Q (.bl false) h) G) := fun G g1 g2 g3 => by
              refine ⟨ta, ?_⟩
              cases h5 : isIn 0 (pl - 1) a with
              | false => exact wk_of (g2 h5)
              | true =>
                refine ⟨(km c (by simp)).kn, ?_⟩
                cases h6 : isIn 1 3 c with
                | false => exact wk_of (g3 h6 h5)
                | true => exact g1 h5 h6
            cases h3 : isS "move" s with
            | true =>
              obtain ⟨_, _, h4⟩ := isS_move h3
              simp only [h1, h2, h3, h4, cond_true, cond_false] at q
              walk_at "st"
              refine eqS' ts ?_
              rw [h2]
              walk_at "st"
              refine ⟨by decide, ?_⟩
              show T (.tup [a]) ∧ _
              rw [isNums_one]
              refine mid _ (fun h5 h6 => ?_) (fun h5 => by rw [h5] at q; exact q) fun h6 h5 => by rw [h5, h6] at q; exact q
              rw [h5, h6] at q
              refine eqS' ts ?_
              rw [h1]
              walk_at "st"
              refine eqS' ts ?_
              rw [h4]
              walk_at "st"
              refine ⟨(km x (by simp)).kn, ?_⟩
              cases h7 : isIn 0 (pl - 1) x with
              | false => rw [h7] at q; exact wk_of q
              | true =>
                rw [h7] at q
                walk_at "st"
                refine eqS' ts ?_
                rw [h3]
                exact wk_of q
            | false =>
              cases h4 : isS "put" s with
              | false =>
                simp only [h1, h2, h3, h4, cond_true, cond_false, Bool.false_and, Bool.and_false] at q
                exact wk_of q
              | true =>
                simp only [h1, h2, h3, h4, cond_true, cond_false, Bool.true_and] at q
                walk_at "st"
                refine eqS' ts ?_
                rw [h2]
                walk_at "st"
                refine ⟨by decide, ?_⟩
                show T (.tup [a]) ∧ _
                rw [isNums_one]
                refine mid _ (fun h5 h6 => ?_) (fun h5 => by rw [h5] at q; exact q) fun h6 h5 => by rw [h5, h6] at q; exact q
                rw [h5, h6] at q
                refine eqS' ts ?_
                rw [h1]
                walk_at "st"
                refine eqS' ts ?_
                rw [h4]
                walk_at "st"
                exact ⟨(km x (by simp)).kn, wk_of q⟩
      · rw [isDeed_5] at q
        have ts := km s (by simp)
        have e4 : decide ((([s, a, x, c, c2] : List D).length : Int) = 4) = false := rfl
        have e5 : decide ((([s, a, x, c, c2] : List D).length : Int) = 5) = true := rfl
        have ta : T (.tup [a]) := Th.tup (small_len (by simp)) fun z hz => by simp at hz; rw [hz]; exact k9 a (by simp)
        rw [e4, e5]
        walk_at "st"
        refine ⟨by decide, notin_four ts ?_⟩
        cases h2 : isS "join" s with
        | false =>
          simp only [h2, Bool.false_and, Bool.and_false] at q
          walk_at "st"
          refine iteB_of (fun c1 => wk_of q) fun c1 => eqS' ts ?_
          rw [h2]
          exact wk_of q
        | true =>
          obtain ⟨h1, h3, h4⟩ := isS_join h2
          simp only [h2, Bool.true_and] at q
          cell_end h1 h3 h4
          refine eqS' ts ?_
          rw [h2]
          walk_at "st"
          refine ⟨by decide, ta, ?_⟩
          rw [isNums_one]
          cases h5 : isIn 0 (pl - 1) a with
          | false => rw [h5] at q; exact wk_of q
          | true =>
            rw [h5] at q
            walk_at "st"
            refine ⟨(km c2 (by simp)).kn, ?_⟩
            cases h6 : isIn 1 3 c2 with
            | false => rw [h6] at q; exact wk_of q
            | true =>
              rw [h6] at q
              walk_at "st"
              refine eqS' ts ?_
              rw [h1]
              walk_at "st"
              refine eqS' ts ?_
              rw [h4]
              walk_at "st"
              refine ⟨(km x (by simp)).kn, ?_⟩
              cases h7 : isIn 0 (pl - 1) x with
              | false => rw [h7] at q; exact wk_of q
              | true =>
                rw [h7] at q
                walk_at "st"
                refine eqS' ts ?_
                rw [h3]
                walk_at "st"
                have tc := km c (by simp)
                rw [tyName_eq tc.kn]
                cases c with
                | tup cs =>
                  walk_at "st"
                  refine iteB_of (fun c8 => ?_) fun c8 => ?_
                  · exact wk_of (by simp at c8; simpa [areTabs, c8] using q)
                  · refine none_bad (f := isTab w) trivial tc.tup.1 (fun y hy K hK => ?_) (by simp at c8; simpa [areTabs, c8] using q)
                    walk_at "st"
                    exact ⟨tc.tup.2 y hy, by rw [isNums_tab]; exact hK⟩
                | _ => exact wk_of q
      · rw [isDeed_long] at q
        refine iteB_of (fun c1 => wk_of q) fun c1 => ?_
        exfalso
        simp at c1
        omega
    | _ => exact wk_of q
  · exact q.elim
theorem pure__law_is_machine : ∀ ds h Q E, p__law_is_machine ds h Q E → dFn 2 b__law_is_machine ds h Q E := by
  intro ds h Q E q
  unfold p__law_is_machine at q
  split at q
  · obtain ⟨k, q⟩ := q
    unfold b__law_is_machine
    rename_i d
    walk_at "st"
    rw [tyName_eq k.kn]
    cases d with
    | tup ds =>
      walk_at "st"
      obtain ⟨sz, km⟩ := k.tup
      by_cases hl : ds.length = 3
      · match ds, hl with
        | [w, pl, dd], _ =>
          have e3 : decide ((([w, pl, dd] : List D).length : Int) = 3) = true := rfl
          rw [e3]
          walk_at "st"
          refine ⟨(km w (by simp)).kn, ?_⟩
          cases c1 : isIn 2 4 w with
          | false =>
            cases w <;> first | exact wk_of q | skip
            cases pl <;> first | exact wk_of q | skip
            cases dd <;> first | exact wk_of q | skip
            simp only [isMach, c1, Bool.false_and] at q
            exact wk_of q
          | true =>
            walk_at "st"
            refine ⟨(km pl (by simp)).kn, ?_⟩
            cases c2 : isIn 1 2 pl with
            | false =>
              cases w <;> first | exact wk_of q | skip
              cases pl <;> first | exact wk_of q | skip
              cases dd <;> first | exact wk_of q | skip
              simp only [isMach, c2, Bool.false_and, Bool.and_false] at q
              exact wk_of q
            | true =>
              walk_at "st"
              rw [tyName_eq (km dd (by simp)).kn]
              cases w with
              | int w =>
                cases pl with
                | int pl =>
                  cases dd with
                  | tup dl =>
                    walk_at "st"
                    simp only [isMach, c1, c2, Bool.true_and] at q
                    obtain ⟨sz2, km2⟩ := (km (.tup dl) (by simp)).tup
                    have e1 : decide (1 ≤ (dl.length : Int)) = decide (1 ≤ dl.length) := by congr 1; simp only [eq_iff_iff]; omega
                    have e6 : decide ((dl.length : Int) ≤ 6) = decide (dl.length ≤ 6) := by congr 1; simp only [eq_iff_iff]; omega
                    rw [e1, e6]
                    have fin : decide (1 ≤ dl.length) = true → decide (dl.length ≤ 6) = true → Q (.bl (dl.all (isDeed w pl))) h := fun c3 c4 => by
                      simp only [c3, c4, Bool.true_and] at q; exact q
                    have bad : (decide (1 ≤ dl.length) = false ∨ decide (dl.length ≤ 6) = false) → Q (.bl false) h := fun z => by
                      rcases z with z | z <;> simpa only [z, Bool.false_and, Bool.and_false] using q
                    refine iteB_of (fun c3 => iteB_of (fun c4 => wk_of (bad (.inr (by simpa using c4)))) fun c4 => ?_) fun c3 => wk_of (bad (.inl c3))
                    refine none_bad (f := isDeed w pl) trivial sz2 (fun x hx K hK => ?_) (fin c3 (by simpa using c4))
                    walk_at "st"
                    exact ⟨km2 x hx, hK⟩
                  | _ => exact wk_of q
                | _ => cases c2
              | _ => cases c1
      · have e : isMach (.tup ds) = false := by
          unfold isMach
          split
          · rename_i e; cases e; exact absurd rfl hl
          · rfl
        rw [e] at q
        refine iteB_of (fun c => wk_of q) fun c => ?_
        simp at c
        exact absurd (by omega) hl
    | _ => exact wk_of q
  · exact q.elim
/-! ### signs -/
def sgn (c : Nat) : D := .str ⟨#[c]⟩
def allS : Str := (" !\"#$&'()*+,-./0123456789:;<=>?@ABCDEFGHIJKLMNOPQRSTUVWXYZ[\\]^_`" : Str) ++ ("abcdefghijklmnopqrstuvwxyz{|}~\t\n" : Str)
def someS (o : Str) : List Nat := allS.cps.toList.filter fun c => !decide (c ∈ o.cps.toList)
theorem allS_len : allS.cps.toList.length ≤ 100 := by decide +kernel
theorem allS_ok : ∀ c ∈ allS.cps.toList, c < 0x110000 := by decide +kernel
def p__law_sign_but : DSp
  | [.ref p, .str o], h, Q, _ => ∃ (n : Nat) (cc : Addr), PenAt h p cc n ∧ n < BIG ∧ someS o ≠ [] ∧ ∀ (c : Nat) (h' : DH), c ∈ someS o → PenAt h' p cc (n + 1) → But p h h' → Q (sgn c) h'
  | _, _, _, _ => False
def p__law_any_sign : DSp
  | [.ref p], h, Q, _ => ∃ (n : Nat) (cc : Addr), PenAt h p cc n ∧ n < BIG ∧ ∀ (c : Nat) (h' : DH), c ∈ allS.cps.toList → PenAt h' p cc (n + 1) → But p h h' → Q (sgn c) h'
  | _, _, _, _ => False
/-- a sign put in, or in the place of one -/
def Sgd (x y : Str) : Prop := ∃ k c b : Nat, b < 2 ∧ y.cps.toList = x.cps.toList.take k ++ c :: x.cps.toList.drop (k + b)
def p__law_signed : DSp
  | [.ref p, .str x], h, Q, _ => ∃ (n : Nat) (cc : Addr), PenAt h p cc n ∧ n + 3 < BIG ∧ x.length ≤ 100000 ∧ PyData.strOk x = true ∧ ∀ (y : Str) (h' : DH), PyData.strOk y = true → y.length ≤ x.length + 1 → PenAt h' p cc (n + 3) → But p h h' → Sgd x y → Q (.str y) h'
  | _, _, _, _ => False
/-! slots of _law_sign_but: 0 pen, 1 others, 2 all_signs, 3 some, 4 sign -/
def b__law_sign_but (E : DXE) : DTS :=
    (dSeq (dAsg 2 (dC (.str " !\"#$&'()*+,-./0123456789:;<=>?@ABCDEFGHIJKLMNOPQRSTUVWXYZ[\\]^_`")))
    (dSeq (dAsg 2 (dBin rAddD (dVar 2) (dC (.str "abcdefghijklmnopqrstuvwxyz{|}~\t\n"))))
    (dSeq (dAsg 3 (dNewV (dLc (dItE (dVar 2)) (.name 4) [4] (dB (dBin (rInE true) (dVar 4) (dVar 1))) (dVar 4))))
    (dRet (dBin rIxE (dVar 3) (dCall p__law_take 2 E (dCons (dVar 0) (dCons (dCB rLenE (dCons (dVar 3) dNil)) dNil))))))))
/-! slots of _law_any_sign: 0 pen -/
def b__law_any_sign (E : DXE) : DTS :=
    (dRet (dCall p__law_sign_but 2 E (dCons (dVar 0) (dCons (dC (.str "")) dNil))))
/-! slots of _law_signed: 0 pen, 1 text, 2 at -/
def b__law_signed (E : DXE) : DTS :=
    (dSeq (dAsg 2 (dCall p__law_take 2 E (dCons (dVar 0) (dCons (dBin rAddD (dCB rLenE (dCons (dVar 1) dNil)) (dC (.int 1))) dNil))))
    (dRet (dBin rAddD (dBin rAddD (dSl (dVar 1) dNoPart (dPart (dVar 2))) (dCall p__law_any_sign 1 E (dCons (dVar 0) dNil))) (dSl (dVar 1) (dPart (dBin rAddD (dVar 2) (dCall p__law_take 2 E (dCons (dVar 0) (dCons (dC (.int 2)) dNil))))) dNoPart))))
theorem strOk_iff {x : Str} : PyData.strOk x = true ↔ ∀ c ∈ x.cps.toList, c < 0x110000 := by
  unfold PyData.strOk
  rw [Array.all_eq_true_iff_forall_mem]
  simp
theorem strOk_append {x y : Str} (a : PyData.strOk x = true) (b : PyData.strOk y = true) : PyData.strOk (x ++ y) = true := by
  rw [strOk_iff] at *
  intro c hc
  have e : (x ++ y).cps.toList = x.cps.toList ++ y.cps.toList := by show (x.cps ++ y.cps).toList = _; simp
  rw [e] at hc
  rcases List.mem_append.mp hc with z | z
  · exact a c z
  · exact b c z
theorem len_append {x y : Str} : (x ++ y).length = x.length + y.length := by show (x.cps ++ y.cps).size = _; simp; rfl
theorem len_list {x : Str} : x.cps.toList.length = x.length := by simp; rfl
theorem pure__law_sign_but : ∀ ds h Q E, p__law_sign_but ds h Q E → dFn 5 b__law_sign_but ds h Q E := by
  intro ds h Q E q
  unfold p__law_sign_but at q
  split at q
  · obtain ⟨n, cc, hp, hn, hs, q⟩ := q
    rename_i p o
    unfold b__law_sign_but
    walk_at "st"
    refine ⟨by decide +kernel, ?_⟩
    show dComp _ _ _ _ _ _ _ (signs allS) [] h
    have e : ((signs allS).filter fun d => match d with | .str x => !(x.cps.toList.all fun c => decide (c ∈ o.cps.toList)) | _ => false).map id = (someS o).map sgn := by
      unfold signs someS
      rw [List.filter_map, List.map_id]
      congr 1
      apply List.filter_congr
      intro c _
      simp
    refine comp_filter (fun d => match d with | .str x => !(x.cps.toList.all fun c => decide (c ∈ o.cps.toList)) | _ => false) id trivial (by unfold signs; rw [List.length_map]; exact small_size (by have := allS_len; omega)) (fun x hx K K2 hK => ?_) ?_
    · unfold signs at hx
      obtain ⟨c, _, rfl⟩ := List.mem_map.mp hx
      walk_at "st"
      refine ⟨c, rfl, ?_⟩
      simp only [List.all_cons, List.all_nil, Bool.and_true, id] at hK
      walk_at "st"
      cases e : decide (c ∈ o.cps.toList) with
      | true => rw [e] at hK; exact hK
      | false => rw [e] at hK; exact hK
    · rw [e]
      walk_at "st"
      have el : (((someS o).map sgn).length : Int) = ((someS o).length : Nat) := by simp
      rw [el]
      have pos : 0 < (someS o).length := List.length_pos_iff.mpr hs
      have sm : (someS o).length ≤ 100 := Nat.le_trans (List.length_filter_le ..) allS_len
      refine take_call hp hn pos (by omega) fun r h1 hr p1 b1 => ?_
      have i1 : atI ((someS o).map sgn) (r : Int) = some (sgn (someS o)[r]) := atI_nat (by simp [hr])
      k_call_by "st" i1
      exact wk_of (q _ h1 (List.getElem_mem ..) p1 b1)
  · exact q.elim
theorem someS_nil : someS "" = allS.cps.toList := by
  unfold someS
  apply List.filter_eq_self.mpr
  intro c _
  rw [show ((("" : Str)).cps.toList) = [] from by decide +kernel]
  simp
theorem pure__law_any_sign : ∀ ds h Q E, p__law_any_sign ds h Q E → dFn 1 b__law_any_sign ds h Q E := by
  intro ds h Q E q
  unfold p__law_any_sign at q
  split at q
  · obtain ⟨n, cc, hp, hn, q⟩ := q
    unfold b__law_any_sign
    walk_at "st"
    refine ⟨n, cc, hp, hn, by rw [someS_nil]; decide +kernel, fun c h' hc a b => wk_of (q c h' (by rw [someS_nil] at hc; exact hc) a b)⟩
  · exact q.elim
theorem cutS_ok {x : Str} {lo hi : Option Int} (k : PyData.strOk x = true) : PyData.strOk (cutS x lo hi) = true := by
  rw [strOk_iff] at *
  intro c hc
  refine k c ?_
  unfold cutS at hc
  simp at hc
  exact List.mem_of_mem_drop (List.mem_of_mem_take hc) |> fun z => by simpa using z
theorem cutS_to {x : Str} (k : Nat) (hk : k ≤ x.length) : (cutS x none (some (k : Int))).length = k := by
  unfold cutS
  rw [HT.sIx_nat, HT.sIx_none]
  simp [Str.length] at *
  omega
theorem cutS_from {x : Str} (k : Nat) : (cutS x (some (k : Int)) none).length = x.length - k := by
  unfold cutS
  rw [HT.sIx_nat, HT.sIx_none]
  simp [Str.length] at *
  omega
theorem cps_to {x : Str} (k : Nat) : (cutS x none (some (k : Int))).cps.toList = x.cps.toList.take k := by
  unfold cutS
  rw [HT.sIx_nat, HT.sIx_none]
  simp [Str.length]
theorem cps_from {x : Str} (k : Nat) : (cutS x (some (k : Int)) none).cps.toList = x.cps.toList.drop k := by
  unfold cutS
  rw [HT.sIx_nat, HT.sIx_none]
  simp only [Str.length]
  have el : x.cps.toList.length = x.cps.size := by simp
  by_cases h : k ≤ x.cps.size
  · rw [Nat.min_eq_left h]
    exact List.take_of_length_le (by rw [List.length_drop, el]; exact Nat.le_refl _)
  · rw [Nat.min_eq_right (by omega), Nat.sub_self, List.take_zero, List.drop_eq_nil_of_le (by omega)]
theorem cps_append {x y : Str} : (x ++ y).cps.toList = x.cps.toList ++ y.cps.toList := by show (x.cps ++ y.cps).toList = _; simp
theorem pure__law_signed : ∀ ds h Q E, p__law_signed ds h Q E → dFn 3 b__law_signed ds h Q E := by
  intro ds h Q E q
  unfold p__law_signed at q
  split at q
  · obtain ⟨n, cc, hp, hn, hx, ok, q⟩ := q
    rename_i p x
    have hsz : ∀ k : Nat, k ≤ 1000000 → k ≤ sizeLine := fun k hk => Nat.le_trans hk (by decide)
    unfold b__law_signed
    walk_at "st"
    refine ⟨hsz _ (by omega), ?_⟩
    have e1 : (x.length : Int) + 1 = ((x.length + 1 : Nat) : Int) := by omega
    rw [e1]
    refine take_call hp (by omega) (by omega) (by omega) fun at_ h1 ha p1 b1 => ?_
    walk_at "st"
    refine ⟨hsz _ (by omega), ?_⟩
    refine ⟨n + 1, cc, p1, by omega, fun c h2 hc p2 b2 => ?_⟩
    unfold sgn
    walk_at "st"
    have l1 := cutS_to (x := x) at_ (by omega)
    refine ⟨hsz _ (by rw [l1]; show at_ + 1 ≤ _; omega), ?_⟩
    refine take_call (many := 2) p2 (by omega) (by omega) (by omega) fun r h3 hr p3 b3 => ?_
    walk_at "st"
    refine ⟨hsz _ (by omega), ?_⟩
    have e2 : (at_ : Int) + (r : Int) = ((at_ + r : Nat) : Int) := by omega
    rw [e2]
    have l2 := cutS_from (x := x) (at_ + r)
    have l3 : (cutS x none (some (at_ : Int)) ++ (⟨#[c]⟩ : Str)).length = at_ + 1 := by rw [len_append, l1]; rfl
    refine ⟨hsz _ (by rw [l2, l3]; omega), wk_of (q _ h3 (strOk_append (strOk_append (cutS_ok ok) ?_) (cutS_ok ok)) (by rw [len_append, l2, l3]; omega) p3 ((b1.trans b2).trans b3) ⟨at_, c, r, hr, by rw [cps_append, cps_append, cps_to, cps_from, List.append_assoc]; rfl⟩)⟩
    rw [strOk_iff]
    intro z hz
    simp at hz
    rw [hz]
    exact allS_ok c hc
  · exact q.elim
/-! ### what is shown -/
/-- its repr is short: all its leaves are, and it has at most k of them -/
structure Sm (k : Nat) (d : D) : Prop where
  sw : (pd d).showable = true
  lv : (pd d).leavesShort 30 = true
  bk : (pd d).bulk ≤ k
theorem Sm.mono {k j : Nat} {d : D} (s : Sm k d) (h : k ≤ j) : Sm j d := ⟨s.sw, s.lv, Nat.le_trans s.bk h⟩
theorem Sm.all {k : Nat} : ∀ {ds : List D}, (∀ x ∈ ds, Sm k x) → PyData.showableAll (pds ds) = true ∧ PyData.leavesShortAll 30 (pds ds) = true ∧ PyData.bulkAll (pds ds) ≤ (k + 1) * ds.length
  | [], _ => ⟨by simp [pds, PyData.showableAll], by simp [pds, PyData.leavesShortAll], by simp [pds, PyData.bulkAll]⟩
  | d :: ds, h => by
    have a := h d (List.mem_cons_self ..)
    obtain ⟨b1, b2, b3⟩ := Sm.all fun x hx => h x (List.mem_cons_of_mem _ hx)
    refine ⟨by simp [pds, PyData.showableAll, a.sw, b1], by simp [pds, PyData.leavesShortAll, a.lv, b2], ?_⟩
    simp only [pds, PyData.bulkAll, List.length_cons, Nat.mul_add, Nat.mul_one]
    have := a.bk
    omega
theorem Sm.frz {k : Nat} {ds : List D} (h : ∀ x ∈ ds, Sm k x) : Sm ((k + 1) * ds.length) (.frz ds) := by
  obtain ⟨a, b, c⟩ := Sm.all h
  exact ⟨by simpa [pd, PyData.showable] using a, by simpa [pd, PyData.leavesShort] using b, by simpa [pd, PyData.bulk] using c⟩
theorem Sm.tup {k : Nat} {ds : List D} (h : ∀ x ∈ ds, Sm k x) : Sm ((k + 1) * ds.length) (.tup ds) := by
  obtain ⟨a, b, c⟩ := Sm.all h
  exact ⟨by simpa [pd, PyData.showable] using a, by simpa [pd, PyData.leavesShort] using b, by simpa [pd, PyData.bulk] using c⟩
theorem Sm.non {k : Nat} : Sm k .non := ⟨by simp [pd, PyData.showable], by simp [pd, PyData.leavesShort], by simp [pd, PyData.bulk]⟩
theorem Sm.bl {k : Nat} {b : Bool} : Sm k (.bl b) := ⟨by simp [pd, PyData.showable], by simp [pd, PyData.leavesShort], by simp [pd, PyData.bulk]⟩
theorem Sm.int {k : Nat} {i : Int} (h : i.natAbs.log2 < 1920) (h2 : (PyData.shown (.int i)).length ≤ 30) : Sm k (.int i) := ⟨by simpa [pd, PyData.showable] using h, by simpa only [pd, PyData.leavesShort, decide_eq_true_eq] using h2, by simp [pd, PyData.bulk]⟩
theorem small_ints : ∀ i : Fin 100, ((i.val : Int) - 50).natAbs.log2 < 1920 ∧ (PyData.shown (.int ((i.val : Int) - 50))).length ≤ 30 := by decide +kernel
theorem Sm.small {k : Nat} {i : Int} (h1 : -50 ≤ i) (h2 : i < 50) : Sm k (.int i) := by
  have z := small_ints ⟨(i + 50).toNat, by omega⟩
  have e : (((i + 50).toNat : Nat) : Int) - 50 = i := by omega
  simp only [e] at z
  exact .int z.1 z.2
theorem Sm.huge {k : Nat} : Sm k (.int (10 ^ Int.toNat 20)) := .int (by decide +kernel) (by decide +kernel)
theorem Sm.str {k : Nat} {x : Str} (h : PyData.leavesShort 30 (.str x) = true) (l : x.cps.size ≤ k) : Sm k (.str x) := ⟨by simp [pd, PyData.showable], by simpa [pd] using h, by simpa [pd, PyData.bulk] using l⟩
theorem Sm.row {r : List Nat} (h : ∀ x ∈ r, x < 50) : Sm r.length (rowD r) := by
  have z := Sm.frz (k := 0) (ds := natsD r) fun x hx => by
    obtain ⟨i, hi, rfl⟩ := List.mem_map.mp hx
    have := h i hi
    exact .small (by omega) (by omega)
  simpa using z
/-- repr of a thing -/
theorem repr_of {d : D} {n k : Nat} {h : DH} {Q : DK} (t : Th n d) (hn : n ≤ 64) (s : Sm k d) (hk : k ≤ 100000) (q : Q (.str (pd d).shown) h) : rReprD [d] h Q := by
  obtain ⟨a, b⟩ := t.shaped (h := h) hn
  refine ⟨pd d, a, b, s.sw, ?_, q⟩
  have z := PyData.shown_le_bulk 30 (by decide) (pd d) s.lv
  have y : (30 + 2) * (pd d).bulk ≤ 32 * 100000 := Nat.mul_le_mul (by decide) (Nat.le_trans s.bk hk)
  exact Nat.le_trans (Nat.le_trans z (Nat.add_le_add_right y 30)) (by decide)
/-! ### things bent -/
def q__law_bent (d : Nat) : DSp := fun ds h Q _ => ∃ (p : Addr) (t : D) (n : Nat) (cc : Addr) (m dp : Nat), ds = [.ref p, t, nD dp] ∧ dp < d ∧ PenAt h p cc n ∧ n + 10 * (dp + 1) ≤ BIG ∧ Th m t ∧ m ≤ 50 ∧ ∀ (r : D) (h' : DH), Th (m + 1) r → (t = .int 0 → Sm 6 r) → PenAt h' p cc (n + 10 * (dp + 1)) → But p h h' → Q r h'
def p__law_bent : DSp := q__law_bent 12
theorem z0__law_bent {ds h Q E} (z : q__law_bent 0 ds h Q E) : False := by
  obtain ⟨_, _, _, _, _, _, _, z, _⟩ := z
  omega
/-! slots of _law_bent: 0 pen, 1 thing, 2 deep, 3 kind, 4 pick, 5 number, 6 at, 7 odd, 8 some -/
def b__law_bent (rec : DSp) (E : DXE) : DTS :=
    (dSeq (dAsg 3 (dCall p__law_take 2 E (dCons (dVar 0) (dCons (dC (.int 8)) dNil))))
    (dSeq (dAsg 4 (dCall p__law_take 2 E (dCons (dVar 0) (dCons (dC (.int 20)) dNil))))
    (dSeq (dAsg 5 (dBin rSubI (dCall p__law_take 2 E (dCons (dVar 0) (dCons (dC (.int 9)) dNil))) (dC (.int 2))))
    (dSeq (dIf (dAnd (dB (dIsi "tuple" (dVar 1))) (dAnd (dB (dBin (rEqD' true) (dVar 1) (dTup dNil))) (dAnd (dB (dBin rGtI (dVar 2) (dC (.int 0)))) (dB (dBin rGtI (dVar 4) (dC (.int 4))))))) (dSeq (dAsg 6 (dCall p__law_take 2 E (dCons (dVar 0) (dCons (dCB rLenE (dCons (dVar 1) dNil)) dNil))))
    (dRet (dBin rAddD (dBin rAddD (dSl (dVar 1) dNoPart (dPart (dVar 6))) (dTup (dCons (dCall rec 3 E (dCons (dVar 0) (dCons (dBin rIxE (dVar 1) (dVar 6)) (dCons (dBin rSubI (dVar 2) (dC (.int 1))) dNil)))) dNil))) (dSl (dVar 1) (dPart (dBin rAddD (dVar 6) (dC (.int 1)))) dNoPart)))) dNext)
    (dSeq (dAsg 7 (dNewV (dLst (dCons (dC .non) (dCons (dC (.bl true)) (dCons (dC (.bl false)) (dCons (dC (.str "")) (dCons (dC (.str "turn")) (dCons (dC (.str "join")) (dCons (dC (.str "move")) (dCons (dC (.str "put")) (dCons (dC (.str "Turn")) (dCons (dTup dNil) (dCons (dNewV (dLst dNil)) (dCons (dBin rPowI (dC (.int 10)) (dC (.int 20))) (dCons (dUn rNegI (dC (.int 1))) (dCons (dC (.int 0)) dNil)))))))))))))))))
    (dSeq (dAsg 7 (dNewV (dCatE (dVar 7) (dLst (dCons (dC (.int 1)) (dCons (dC (.int 4)) (dCons (dTup (dCons (dC (.int 0)) dNil)) (dCons (dNewV (dLst (dCons (dC (.int 0)) dNil))) (dCons (dC (.str "0")) (dCons (dC (.int 7)) dNil))))))))))
    (dSeq (dIf (dB (dIsi "tuple" (dVar 1))) (dSeq (dAsg 8 (dNewV (dLst (dCons (dNewV (dListOfE (dVar 1))) (dCons (dBin rAddD (dVar 1) (dSl (dVar 1) dNoPart (dPart (dC (.int 1))))) (dCons (dSl (dVar 1) dNoPart (dPart (dUn rNegI (dC (.int 1))))) (dCons (dUn rRevA (dVar 1)) (dCons (dBin rAddD (dVar 1) (dTup (dCons (dVar 5) dNil))) (dCons (dSl (dVar 1) (dPart (dC (.int 1))) dNoPart) (dCons (dTup (dCons (dVar 1) dNil)) dNil))))))))))
    (dRet (dIxL (dCatE (dVar 8) (dLst (dCons (dBin rIxE (dVar 7) (dVar 4)) dNil))) (dVar 3)))) dNext)
    (dSeq (dIf (dB (dCall p__law_is_whole 1 E (dCons (dVar 1) dNil))) (dRet (dIxL (dLst (dCons (dBin rAddD (dVar 1) (dC (.int 1))) (dCons (dBin rSubI (dVar 1) (dC (.int 1))) (dCons (dBin rSubI (dC (.int 0)) (dVar 1)) (dCons (dVar 5) (dCons (dVar 5) (dCons (dBin (rEqD' false) (dVar 1) (dC (.int 1))) (dCons (dBin rSubI (dC (.int 3)) (dVar 1)) (dCons (dBin rIxE (dVar 7) (dVar 4)) dNil))))))))) (dVar 3))) dNext)
    (dSeq (dIf (dAnd (dB (dIsi "str" (dVar 1))) (dB (dBin rLtI (dVar 3) (dC (.int 3))))) (dRet (dCall p__law_signed 2 E (dCons (dVar 0) (dCons (dVar 1) dNil)))) dNext)
    (dRet (dBin rIxE (dVar 7) (dVar 4))))))))))))
theorem eqV_unit {ds : List D} : eqV (.tup ds) (.tup []) = ds.isEmpty := by cases ds <;> simp [eqV, pd, pds, PyData.eqv, PyData.eqvAll]
theorem ne_unit {h : DH} {ds : List D} {Q : DK} {n : Nat} (t : Th n (.tup ds)) (hn : n ≤ 64) (q : Q (.bl (!ds.isEmpty)) h) : rEqD' true (.tup ds) (.tup []) h Q :=
  rEq_of t (Th.tup (n := 0) (by simp) fun _ z => by cases z) hn (by decide) (by rw [eqV_unit]; simpa using q)
theorem atI_mem {ds : List D} {k : Nat} (hk : k < ds.length) : ∃ d, atI ds (k : Int) = some d ∧ d ∈ ds := ⟨ds[k], atI_nat (by simp [hk]), List.getElem_mem ..⟩
theorem mem_cutD {ds : List D} {lo hi : Option Int} {x : D} (m : x ∈ cutD ds lo hi) : x ∈ ds := List.mem_of_mem_drop (List.mem_of_mem_take m)
theorem len_cutD {ds : List D} {lo hi : Option Int} : (cutD ds lo hi).length ≤ ds.length := by
  unfold cutD
  rw [List.length_take, List.length_drop]
  omega
theorem iteB3 {c1 c2 c3 : Bool} {A R : Prop} (a : c1 = true → c2 = true → c3 = true → A) (r : R) : iteB c1 (iteB c2 (iteB c3 A R) R) R := by
  cases c1 <;> cases c2 <;> cases c3 <;> first | exact r | exact a rfl rfl rfl
def b_tail2 (E : DXE) : DTS :=
      (dSeq (dIf (dB (dIsi "tuple" (dVar 1))) (dSeq (dAsg 8 (dNewV (dLst (dCons (dNewV (dListOfE (dVar 1))) (dCons (dBin rAddD (dVar 1) (dSl (dVar 1) dNoPart (dPart (dC (.int 1))))) (dCons (dSl (dVar 1) dNoPart (dPart (dUn rNegI (dC (.int 1))))) (dCons (dUn rRevA (dVar 1)) (dCons (dBin rAddD (dVar 1) (dTup (dCons (dVar 5) dNil))) (dCons (dSl (dVar 1) (dPart (dC (.int 1))) dNoPart) (dCons (dTup (dCons (dVar 1) dNil)) dNil))))))))))
      (dRet (dIxL (dCatE (dVar 8) (dLst (dCons (dBin rIxE (dVar 7) (dVar 4)) dNil))) (dVar 3)))) dNext)
      (dSeq (dIf (dB (dCall p__law_is_whole 1 E (dCons (dVar 1) dNil))) (dRet (dIxL (dLst (dCons (dBin rAddD (dVar 1) (dC (.int 1))) (dCons (dBin rSubI (dVar 1) (dC (.int 1))) (dCons (dBin rSubI (dC (.int 0)) (dVar 1)) (dCons (dVar 5) (dCons (dVar 5) (dCons (dBin (rEqD' false) (dVar 1) (dC (.int 1))) (dCons (dBin rSubI (dC (.int 3)) (dVar 1)) (dCons (dBin rIxE (dVar 7) (dVar 4)) dNil))))))))) (dVar 3))) dNext)
      (dSeq (dIf (dAnd (dB (dIsi "str" (dVar 1))) (dB (dBin rLtI (dVar 3) (dC (.int 3))))) (dRet (dCall p__law_signed 2 E (dCons (dVar 0) (dCons (dVar 1) dNil)))) dNext)
      (dRet (dBin rIxE (dVar 7) (dVar 4))))))
def b_tail (E : DXE) : DTS :=
      (dSeq (dAsg 7 (dNewV (dLst (dCons (dC .non) (dCons (dC (.bl true)) (dCons (dC (.bl false)) (dCons (dC (.str "")) (dCons (dC (.str "turn")) (dCons (dC (.str "join")) (dCons (dC (.str "move")) (dCons (dC (.str "put")) (dCons (dC (.str "Turn")) (dCons (dTup dNil) (dCons (dNewV (dLst dNil)) (dCons (dBin rPowI (dC (.int 10)) (dC (.int 20))) (dCons (dUn rNegI (dC (.int 1))) (dCons (dC (.int 0)) dNil)))))))))))))))))
      (dSeq (dAsg 7 (dNewV (dCatE (dVar 7) (dLst (dCons (dC (.int 1)) (dCons (dC (.int 4)) (dCons (dTup (dCons (dC (.int 0)) dNil)) (dCons (dNewV (dLst (dCons (dC (.int 0)) dNil))) (dCons (dC (.str "0")) (dCons (dC (.int 7)) dNil))))))))))
      (b_tail2 E)))
theorem bent_eq {rec : DSp} {E : DXE} : b__law_bent rec E = (dSeq (dAsg 3 (dCall p__law_take 2 E (dCons (dVar 0) (dCons (dC (.int 8)) dNil))))
    (dSeq (dAsg 4 (dCall p__law_take 2 E (dCons (dVar 0) (dCons (dC (.int 20)) dNil))))
    (dSeq (dAsg 5 (dBin rSubI (dCall p__law_take 2 E (dCons (dVar 0) (dCons (dC (.int 9)) dNil))) (dC (.int 2))))
    (dSeq (dIf (dAnd (dB (dIsi "tuple" (dVar 1))) (dAnd (dB (dBin (rEqD' true) (dVar 1) (dTup dNil))) (dAnd (dB (dBin rGtI (dVar 2) (dC (.int 0)))) (dB (dBin rGtI (dVar 4) (dC (.int 4))))))) (dSeq (dAsg 6 (dCall p__law_take 2 E (dCons (dVar 0) (dCons (dCB rLenE (dCons (dVar 1) dNil)) dNil))))
    (dRet (dBin rAddD (dBin rAddD (dSl (dVar 1) dNoPart (dPart (dVar 6))) (dTup (dCons (dCall rec 3 E (dCons (dVar 0) (dCons (dBin rIxE (dVar 1) (dVar 6)) (dCons (dBin rSubI (dVar 2) (dC (.int 1))) dNil)))) dNil))) (dSl (dVar 1) (dPart (dBin rAddD (dVar 6) (dC (.int 1)))) dNoPart)))) dNext)
    (b_tail E))))) := rfl
theorem atI_lit {xs : List D} {k : Nat} (hk : k < xs.length) {P : D → Prop} (all : ∀ x ∈ xs, P x) : ∃ d, atI xs (k : Int) = some d ∧ P d := by
  obtain ⟨d, e, m⟩ := atI_mem hk
  exact ⟨d, e, all d m⟩
theorem tail2_of {p cc : Addr} {t : D} {kind pick n m : Nat} {number dp : Int} {h : DH} {Q : DK} {E : DX} {nx br ct : DEnv → DH → Prop} {x6 : Option D} {od : List D} (hk : kind < 8) (hpk : pick < 20) (hp : PenAt h p cc n) (hn : n + 3 < BIG) (ht : Th m t) (hm : m ≤ 50)
    (hl : od.length = 20) (hnum : -50 ≤ number ∧ number < 50) (ho : ∀ x ∈ od, Th 1 x ∧ Sm 6 x) (q : ∀ (r : D) (h' : DH), Th (m + 1) r → (t = .int 0 → Sm 6 r) → PenAt h' p cc (n + 3) → But p h h' → Q r h') :
    b_tail2 (fun _ => wkX E) ⟨nx, wk Q, br, ct⟩ [some (.ref p), some t, some (.int dp), some (nD kind), some (nD pick), some (.int number), x6, some (.frz od), none] h := by
  obtain ⟨o, eo, to⟩ := atI_lit (k := pick) (by omega) ho
  have to' : Th (m + 1) o := to.1.mono (by omega)
  have last : wk Q o h := wk_of (q o h to' (fun _ => to.2) (hp.mono (by omega)) But.refl)
  unfold b_tail2
  cases t with
  | tup ds =>
    k_call_by "st" eo
    cases ht with
    | tup sz me =>
      rename_i m'
      have hsz : ∀ k : Nat, k ≤ 3000 → k ≤ sizeLine := fun k hk => Nat.le_trans hk (by decide)
      have c1 : (cutD ds none (some 1)).length ≤ 1 := by rw [show (1 : Int) = ((1 : Nat) : Int) from rfl, cut_to, List.length_take]; omega
      have me2 : ∀ x ∈ ds, Th (m' + 1) x := fun x hx => (me x hx).mono (by omega)
      have Tm : ∀ es : List D, es.length ≤ ds.length + 1 → (∀ x ∈ es, Th (m' + 1) x) → Th (m' + 1 + 1) (.tup es) := fun es l z => .tup (by omega) z
      have all : ∀ x ∈ [D.frz ds, D.tup (ds ++ cutD ds none (some 1)), D.tup (cutD ds none (some (-1))), D.tup ds.reverse, D.tup (ds ++ [D.int number]), D.tup (cutD ds (some 1) none), D.tup [D.tup ds], o], Th (m' + 1 + 1) x := fun x hx => by
        simp only [List.mem_cons, List.not_mem_nil, or_false] at hx
        rcases hx with rfl | rfl | rfl | rfl | rfl | rfl | rfl | rfl
        · exact .frz (by omega) me2
        · refine Tm _ (by rw [List.length_append]; omega) fun x hx => ?_
          rcases List.mem_append.mp hx with z | z
          · exact me2 x z
          · exact me2 x (mem_cutD z)
        · exact Tm _ (Nat.le_trans len_cutD (by omega)) fun x hx => me2 x (mem_cutD hx)
        · exact Tm _ (by rw [List.length_reverse]; omega) fun x hx => me2 x (List.mem_reverse.mp hx)
        · refine Tm _ (by rw [List.length_append]; simp) fun x hx => ?_
          rcases List.mem_append.mp hx with z | z
          · exact me2 x z
          · simp at z; rw [z]; exact .int
        · exact Tm _ (Nat.le_trans len_cutD (by omega)) fun x hx => me2 x (mem_cutD hx)
        · refine Tm _ (by simp) fun x hx => ?_
          simp at hx
          rw [hx]
          exact .tup sz me
        · exact to'
      obtain ⟨r, er, tr⟩ := atI_lit (k := kind) (by simpa using hk) all
      rw [er]
      exact ⟨hsz _ (by omega), by decide, hsz _ (by omega), by decide, by decide, by decide, by decide, wk_of (q r h tr (fun z => by cases z) (hp.mono (by omega)) But.refl)⟩
  | int i =>
    k_call_by "st" eo
    refine ⟨trivial, ?_⟩
    have all : ∀ x ∈ [D.int (i + 1), D.int (i - 1), D.int (0 - i), D.int number, D.int number, D.bl (decide (i = 1)), D.int (3 - i), o], Th (m + 1) x ∧ (i = 0 → Sm 6 x) := fun x hx => by
      simp only [List.mem_cons, List.not_mem_nil, or_false] at hx
      rcases hx with rfl | rfl | rfl | rfl | rfl | rfl | rfl | rfl
      · exact ⟨.int, fun z => .small (by omega) (by omega)⟩
      · exact ⟨.int, fun z => .small (by omega) (by omega)⟩
      · exact ⟨.int, fun z => .small (by omega) (by omega)⟩
      · exact ⟨.int, fun z => .small hnum.1 hnum.2⟩
      · exact ⟨.int, fun z => .small hnum.1 hnum.2⟩
      · exact ⟨.bl, fun z => .bl⟩
      · exact ⟨.int, fun z => .small (by omega) (by omega)⟩
      · exact ⟨to', fun _ => to.2⟩
    obtain ⟨r, er, tr⟩ := atI_lit (k := kind) (by simpa using hk) all
    k_call_by "st" er
    exact ⟨by decide, wk_of (q r h tr.1 (fun z => tr.2 (by cases z; rfl)) (hp.mono (by omega)) But.refl)⟩
  | str x =>
    k_call_by "st" eo
    refine ⟨trivial, ?_⟩
    walk_at "st"
    refine iteB_of (fun c => ?_) fun c => last
    cases ht with
    | str ok l => exact ⟨n, cc, hp, hn, by omega, ok, fun y h' ok' l' p' b' _ => wk_of (q _ h' (.str ok' (by omega)) (fun z => by cases z) p' b')⟩
  | non =>
    k_call_by "st" eo
    exact ⟨trivial, last⟩
  | bl b =>
    k_call_by "st" eo
    exact ⟨trivial, last⟩
  | exc nm fs => cases ht
  | scr ds => cases ht
  | ref a => cases ht
  | frz ds =>
    k_call_by "st" eo
    exact ⟨trivial, last⟩
theorem Th_str {n : Nat} {x : Str} (a : PyData.strOk x = true) (b : x.length ≤ 1000) : Th n (.str x) := .str a (by omega)
theorem tail_of {p cc : Addr} {t : D} {kind pick n m : Nat} {number dp : Int} {h : DH} {Q : DK} {E : DX} {nx br ct : DEnv → DH → Prop} {x6 : Option D} (hk : kind < 8) (hpk : pick < 20) (hp : PenAt h p cc n) (hn : n + 3 < BIG) (ht : Th m t) (hm : m ≤ 50) (hnum : -50 ≤ number ∧ number < 50)
    (q : ∀ (r : D) (h' : DH), Th (m + 1) r → (t = .int 0 → Sm 6 r) → PenAt h' p cc (n + 3) → But p h h' → Q r h') :
    b_tail (fun _ => wkX E) ⟨nx, wk Q, br, ct⟩ [some (.ref p), some t, some (.int dp), some (nD kind), some (nD pick), some (.int number), x6, none, none] h := by
  unfold b_tail
  walk_at "st"
  refine ⟨by decide, by decide, by unfold CPow; decide, by decide, by decide, by decide, by decide, by decide, ?_⟩
  refine tail2_of hk hpk hp hn ht hm (by simp) hnum (fun x hx => ?_) q
  simp only [List.cons_append, List.nil_append, List.mem_cons, List.not_mem_nil, or_false] at hx
  rcases hx with rfl | rfl | rfl | rfl | rfl | rfl | rfl | rfl | rfl | rfl | rfl | rfl | rfl | rfl | rfl | rfl | rfl | rfl | rfl | rfl
  · exact ⟨.non, .non⟩
  · exact ⟨.bl, .bl⟩
  · exact ⟨.bl, .bl⟩
  · exact ⟨Th_str (by decide +kernel) (by decide +kernel), .str (by decide +kernel) (by decide +kernel)⟩
  · exact ⟨Th_str (by decide +kernel) (by decide +kernel), .str (by decide +kernel) (by decide +kernel)⟩
  · exact ⟨Th_str (by decide +kernel) (by decide +kernel), .str (by decide +kernel) (by decide +kernel)⟩
  · exact ⟨Th_str (by decide +kernel) (by decide +kernel), .str (by decide +kernel) (by decide +kernel)⟩
  · exact ⟨Th_str (by decide +kernel) (by decide +kernel), .str (by decide +kernel) (by decide +kernel)⟩
  · exact ⟨Th_str (by decide +kernel) (by decide +kernel), .str (by decide +kernel) (by decide +kernel)⟩
  · exact ⟨.tup (by simp) (fun y hy => by cases hy), (Sm.tup (k := 0) (ds := []) (fun y hy => by cases hy)).mono (by simp)⟩
  · exact ⟨.frz (by simp) (fun y hy => by cases hy), (Sm.frz (k := 0) (ds := []) (fun y hy => by cases hy)).mono (by simp)⟩
  · exact ⟨.int, .huge⟩
  · exact ⟨.int, .small (by decide) (by decide)⟩
  · exact ⟨.int, .small (by decide) (by decide)⟩
  · exact ⟨.int, .small (by decide) (by decide)⟩
  · exact ⟨.int, .small (by decide) (by decide)⟩
  · exact ⟨.tup (by simp) fun y hy => by simp at hy; rw [hy]; exact .int, (Sm.tup (k := 0) fun y hy => by simp at hy; rw [hy]; exact .small (by decide) (by decide)).mono (by simp)⟩
  · exact ⟨.frz (by simp) fun y hy => by simp at hy; rw [hy]; exact .int, (Sm.frz (k := 0) fun y hy => by simp at hy; rw [hy]; exact .small (by decide) (by decide)).mono (by simp)⟩
  · exact ⟨Th_str (by decide +kernel) (by decide +kernel), .str (by decide +kernel) (by decide +kernel)⟩
  · exact ⟨.int, .small (by decide) (by decide)⟩
theorem pure__law_bent (j : Nat) : ∀ ds h Q E, q__law_bent (j + 1) ds h Q E → dFn 9 (b__law_bent (q__law_bent j)) ds h Q E := by
  rintro ds h Q E ⟨p, t, n, cc, m, dp, rfl, hd, hp, hn, ht, hm, q⟩
  have hb : BIG = 4294967296 := rfl
  unfold dFn
  rw [bent_eq]
  walk_at "st"
  refine take_call (many := 8) hp (by omega) (by omega) (by omega) fun kind h1 hk p1 b1 => ?_
  walk_at "st"
  refine take_call (many := 20) p1 (by omega) (by omega) (by omega) fun pick h2 hpk p2 b2 => ?_
  walk_at "st"
  refine take_call (many := 9) p2 (by omega) (by omega) (by omega) fun nu h3 hnu p3 b3 => ?_
  walk_at "st"
  have x3 : But p h h3 := (b1.trans b2).trans b3
  have t3 := ht
  have hnum : -50 ≤ (nu : Int) - 2 ∧ (nu : Int) - 2 < 50 := ⟨by omega, by omega⟩
  generalize (nu : Int) - 2 = number at hnum ⊢
  rw [tyName_eq t3.kn]
  have rest : ∀ {br ct : DEnv → DH → Prop} {nx : DEnv → DH → Prop}, b_tail (fun _ => wkX E) ⟨nx, wk Q, br, ct⟩ [some (.ref p), some t, some (.int dp), some (nD kind), some (nD pick), some (.int number), none, none, none] h3 :=
    tail_of hk hpk p3 (by omega) t3 hm hnum fun r h' a z b c => q r h' a z (b.mono (by omega)) (x3.trans c)
  cases t with
  | tup ds =>
    walk_at "st"
    refine ⟨by decide, ne_unit t3 (by omega) ?_⟩
    walk_at "st"
    refine iteB_of (fun c1 => iteB_of (fun c2 => iteB_of (fun c3 => ?_) fun c3 => rest) fun c2 => rest) fun c1 => rest
    have c2' := of_decide_eq_true c2
    cases t3 with
    | tup sz me =>
      rename_i m'
      have pos : 0 < ds.length := by
        cases ds with
        | nil => simp at c1
        | cons _ _ => simp
      refine take_call p3 (by omega) pos (by omega) fun at_ h4 hat p4 b4 => ?_
      obtain ⟨d, ed, md⟩ := atI_mem hat
      k_call_by "st" ed
      have e1 : ((dp : Int) - 1) = ((dp - 1 : Nat) : Int) := by omega
      rw [e1]
      refine ⟨p, d, _, cc, m', dp - 1, rfl, by omega, p4, by omega, me d md, by omega, fun r h5 tr _ p5 x5 => ?_⟩
      have e2 : ((at_ : Int) + 1) = ((at_ + 1 : Nat) : Int) := by omega
      walk_at "st"
      rw [e2, cut_to, cut_from]
      have hsz : ∀ k : Nat, k ≤ 3000 → k ≤ sizeLine := fun k hk => Nat.le_trans hk (by decide)
      have l1 : (ds.take at_).length = at_ := by rw [List.length_take]; omega
      have l2 : (ds.drop (at_ + 1)).length = ds.length - (at_ + 1) := List.length_drop
      have x45 : But p h3 h5 := b4.trans x5
      refine ⟨by decide, hsz _ (by omega), hsz _ (by rw [List.length_append, List.length_singleton]; omega), wk_of (q _ h5 (.tup (by simp only [List.length_append, List.length_singleton]; omega) fun x hx => ?_) (fun z => by cases z) (p5.mono (by omega)) (x3.trans x45))⟩
      rcases List.mem_append.mp hx with z | z
      · rcases List.mem_append.mp z with z | z
        · exact (me x (List.mem_of_mem_take z)).mono (by omega)
        · simp at z; rw [z]; exact tr
      · exact (me x (List.mem_of_mem_drop z)).mono (by omega)
  | _ =>
    walk_at "st"
    exact rest
/-! ### refusals told -/
theorem optAt_eq {α : Type} {o : Option α} {a : α} {k : α → Prop} (e : o = some a) (q : k a) : optAt o k := by rw [e]; exact q
theorem bls_dd {h : DH} : ∀ bs : List Bool, DdL h (bs.map .bl) (bs.map .bool)
  | [] => .nil
  | b :: bs => .cons (.bl b) (bls_dd bs)
theorem bls_shaped {bs : List Bool} : SeqAt.shaped (.list (bs.map .bool)) = true := by
  have c : PyData.canLayAll0 (bs.map .bool) = true := canLayAll_of fun p hp => by
    obtain ⟨b, _, rfl⟩ := List.mem_map.mp hp
    simp [PyData.canLay0]
  have d : PyData.depthAll (bs.map .bool) ≤ 1 := depthAll_of fun p hp => by
    obtain ⟨b, _, rfl⟩ := List.mem_map.mp hp
    simp [PyData.depth]
  have c2 : (PyData.list (bs.map .bool)).canLay0 = true := by simp only [PyData.canLay0]; exact c
  have d2 : (PyData.list (bs.map .bool)).depth ≤ 64 := by simp only [PyData.depth]; omega
  unfold SeqAt.shaped
  rw [c2, decide_eq_true d2]
  rfl
theorem cnt_bls {h : DH} {Q : DK} (bs : List Bool) (q : Q (.int ((bs.count true : Nat) : Int)) h) : rCntD (.frz (bs.map .bl)) [.bl true] h Q := by
  unfold rCntD
  walk_at "st"
  refine ⟨.bool true, bs.map .bool, .bl _, bls_dd bs, rfl, bls_shaped, ?_⟩
  have ec : (bs.map PyData.bool).countP (fun z => PyData.eqv z (.bool true)) = bs.count true := by
    rw [List.countP_map]
    unfold List.count
    congr 1
  rw [ec]
  exact q
theorem idx_bls {h : DH} {Q : DK} (bs : List Bool) (j : Nat) (h1 : bs[j]? = some true) (h2 : ∀ m, m < j → bs[m]? = some false) (q : Q (.int (j : Int)) h) : rIdxD (.frz (bs.map .bl)) [.bl true] h Q := by
  unfold rIdxD
  walk_at "st"
  refine ⟨.bool true, bs.map .bool, j, .bool true, .bl _, bls_dd bs, rfl, bls_shaped, by rw [List.getElem?_map, h1]; rfl, rfl, fun m z hm ez => ?_, q⟩
  rw [List.getElem?_map, h2 m hm] at ez
  cases ez
  rfl
def cX : List Str := ["DeedError", "NoRow", "NoRule", "NoStep", "NoMachine", "TooLong", "NoWord", "NoWork", "NoBound", "TooMany", "NoPlace", "NoDeed", "Nothing", "NoText", "NoLine"]
/-- the words of a refusal -/
inductive Told : Str → List (Str × Int) → List D → Prop
  | row (i : Int) : Told "NoRow" [("place", i)] [.str "row", .int i]
  | rule (i : Int) : Told "NoRule" [("number", i)] [.str "rule", .int i]
  | step (i : Int) : Told "NoStep" [("place", i)] [.str "step", .int i]
  | machine : Told "NoMachine" [] [.str "machine"]
  | long : Told "TooLong" [] [.str "long"]
  | word : Told "NoWord" [] [.str "word"]
  | work : Told "NoWork" [] [.str "work"]
  | bound : Told "NoBound" [] [.str "bound"]
  | many : Told "TooMany" [] [.str "many"]
  | place : Told "NoPlace" [] [.str "place"]
  | deed : Told "NoDeed" [] [.str "deed"]
  | nothing : Told "Nothing" [] [.str "nothing"]
  | text : Told "NoText" [] [.str "text"]
  | line : Told "NoLine" [] [.str "line"]
theorem sx_NoRow : cX.contains "NoRow" = true ∧ subC "NoRow" "NoRow" = true ∧ subC "NoRow" "NoRule" = false ∧ subC "NoRow" "NoStep" = false ∧ subC "NoRow" "NoMachine" = false ∧ subC "NoRow" "TooLong" = false ∧ subC "NoRow" "NoWord" = false ∧ subC "NoRow" "NoWork" = false ∧ subC "NoRow" "NoBound" = false ∧ subC "NoRow" "TooMany" = false ∧ subC "NoRow" "NoPlace" = false ∧ subC "NoRow" "NoDeed" = false ∧ subC "NoRow" "Nothing" = false ∧ subC "NoRow" "NoText" = false ∧ subC "NoRow" "NoLine" = false := by decide +kernel
theorem sx_NoRule : cX.contains "NoRule" = true ∧ subC "NoRule" "NoRow" = false ∧ subC "NoRule" "NoRule" = true ∧ subC "NoRule" "NoStep" = false ∧ subC "NoRule" "NoMachine" = false ∧ subC "NoRule" "TooLong" = false ∧ subC "NoRule" "NoWord" = false ∧ subC "NoRule" "NoWork" = false ∧ subC "NoRule" "NoBound" = false ∧ subC "NoRule" "TooMany" = false ∧ subC "NoRule" "NoPlace" = false ∧ subC "NoRule" "NoDeed" = false ∧ subC "NoRule" "Nothing" = false ∧ subC "NoRule" "NoText" = false ∧ subC "NoRule" "NoLine" = false := by decide +kernel
theorem sx_NoStep : cX.contains "NoStep" = true ∧ subC "NoStep" "NoRow" = false ∧ subC "NoStep" "NoRule" = false ∧ subC "NoStep" "NoStep" = true ∧ subC "NoStep" "NoMachine" = false ∧ subC "NoStep" "TooLong" = false ∧ subC "NoStep" "NoWord" = false ∧ subC "NoStep" "NoWork" = false ∧ subC "NoStep" "NoBound" = false ∧ subC "NoStep" "TooMany" = false ∧ subC "NoStep" "NoPlace" = false ∧ subC "NoStep" "NoDeed" = false ∧ subC "NoStep" "Nothing" = false ∧ subC "NoStep" "NoText" = false ∧ subC "NoStep" "NoLine" = false := by decide +kernel
theorem sx_NoMachine : cX.contains "NoMachine" = true ∧ subC "NoMachine" "NoRow" = false ∧ subC "NoMachine" "NoRule" = false ∧ subC "NoMachine" "NoStep" = false ∧ subC "NoMachine" "NoMachine" = true ∧ subC "NoMachine" "TooLong" = false ∧ subC "NoMachine" "NoWord" = false ∧ subC "NoMachine" "NoWork" = false ∧ subC "NoMachine" "NoBound" = false ∧ subC "NoMachine" "TooMany" = false ∧ subC "NoMachine" "NoPlace" = false ∧ subC "NoMachine" "NoDeed" = false ∧ subC "NoMachine" "Nothing" = false ∧ subC "NoMachine" "NoText" = false ∧ subC "NoMachine" "NoLine" = false := by decide +kernel
theorem sx_TooLong : cX.contains "TooLong" = true ∧ subC "TooLong" "NoRow" = false ∧ subC "TooLong" "NoRule" = false ∧ subC "TooLong" "NoStep" = false ∧ subC "TooLong" "NoMachine" = false ∧ subC "TooLong" "TooLong" = true ∧ subC "TooLong" "NoWord" = false ∧ subC "TooLong" "NoWork" = false ∧ subC "TooLong" "NoBound" = false ∧ subC "TooLong" "TooMany" = false ∧ subC "TooLong" "NoPlace" = false ∧ subC "TooLong" "NoDeed" = false ∧ subC "TooLong" "Nothing" = false ∧ subC "TooLong" "NoText" = false ∧ subC "TooLong" "NoLine" = false := by decide +kernel
theorem sx_NoWord : cX.contains "NoWord" = true ∧ subC "NoWord" "NoRow" = false ∧ subC "NoWord" "NoRule" = false ∧ subC "NoWord" "NoStep" = false ∧ subC "NoWord" "NoMachine" = false ∧ subC "NoWord" "TooLong" = false ∧ subC "NoWord" "NoWord" = true ∧ subC "NoWord" "NoWork" = false ∧ subC "NoWord" "NoBound" = false ∧ subC "NoWord" "TooMany" = false ∧ subC "NoWord" "NoPlace" = false ∧ subC "NoWord" "NoDeed" = false ∧ subC "NoWord" "Nothing" = false ∧ subC "NoWord" "NoText" = false ∧ subC "NoWord" "NoLine" = false := by decide +kernel
theorem sx_NoWork : cX.contains "NoWork" = true ∧ subC "NoWork" "NoRow" = false ∧ subC "NoWork" "NoRule" = false ∧ subC "NoWork" "NoStep" = false ∧ subC "NoWork" "NoMachine" = false ∧ subC "NoWork" "TooLong" = false ∧ subC "NoWork" "NoWord" = false ∧ subC "NoWork" "NoWork" = true ∧ subC "NoWork" "NoBound" = false ∧ subC "NoWork" "TooMany" = false ∧ subC "NoWork" "NoPlace" = false ∧ subC "NoWork" "NoDeed" = false ∧ subC "NoWork" "Nothing" = false ∧ subC "NoWork" "NoText" = false ∧ subC "NoWork" "NoLine" = false := by decide +kernel
theorem sx_NoBound : cX.contains "NoBound" = true ∧ subC "NoBound" "NoRow" = false ∧ subC "NoBound" "NoRule" = false ∧ subC "NoBound" "NoStep" = false ∧ subC "NoBound" "NoMachine" = false ∧ subC "NoBound" "TooLong" = false ∧ subC "NoBound" "NoWord" = false ∧ subC "NoBound" "NoWork" = false ∧ subC "NoBound" "NoBound" = true ∧ subC "NoBound" "TooMany" = false ∧ subC "NoBound" "NoPlace" = false ∧ subC "NoBound" "NoDeed" = false ∧ subC "NoBound" "Nothing" = false ∧ subC "NoBound" "NoText" = false ∧ subC "NoBound" "NoLine" = false := by decide +kernel
theorem sx_TooMany : cX.contains "TooMany" = true ∧ subC "TooMany" "NoRow" = false ∧ subC "TooMany" "NoRule" = false ∧ subC "TooMany" "NoStep" = false ∧ subC "TooMany" "NoMachine" = false ∧ subC "TooMany" "TooLong" = false ∧ subC "TooMany" "NoWord" = false ∧ subC "TooMany" "NoWork" = false ∧ subC "TooMany" "NoBound" = false ∧ subC "TooMany" "TooMany" = true ∧ subC "TooMany" "NoPlace" = false ∧ subC "TooMany" "NoDeed" = false ∧ subC "TooMany" "Nothing" = false ∧ subC "TooMany" "NoText" = false ∧ subC "TooMany" "NoLine" = false := by decide +kernel
theorem sx_NoPlace : cX.contains "NoPlace" = true ∧ subC "NoPlace" "NoRow" = false ∧ subC "NoPlace" "NoRule" = false ∧ subC "NoPlace" "NoStep" = false ∧ subC "NoPlace" "NoMachine" = false ∧ subC "NoPlace" "TooLong" = false ∧ subC "NoPlace" "NoWord" = false ∧ subC "NoPlace" "NoWork" = false ∧ subC "NoPlace" "NoBound" = false ∧ subC "NoPlace" "TooMany" = false ∧ subC "NoPlace" "NoPlace" = true ∧ subC "NoPlace" "NoDeed" = false ∧ subC "NoPlace" "Nothing" = false ∧ subC "NoPlace" "NoText" = false ∧ subC "NoPlace" "NoLine" = false := by decide +kernel
theorem sx_NoDeed : cX.contains "NoDeed" = true ∧ subC "NoDeed" "NoRow" = false ∧ subC "NoDeed" "NoRule" = false ∧ subC "NoDeed" "NoStep" = false ∧ subC "NoDeed" "NoMachine" = false ∧ subC "NoDeed" "TooLong" = false ∧ subC "NoDeed" "NoWord" = false ∧ subC "NoDeed" "NoWork" = false ∧ subC "NoDeed" "NoBound" = false ∧ subC "NoDeed" "TooMany" = false ∧ subC "NoDeed" "NoPlace" = false ∧ subC "NoDeed" "NoDeed" = true ∧ subC "NoDeed" "Nothing" = false ∧ subC "NoDeed" "NoText" = false ∧ subC "NoDeed" "NoLine" = false := by decide +kernel
theorem sx_Nothing : cX.contains "Nothing" = true ∧ subC "Nothing" "NoRow" = false ∧ subC "Nothing" "NoRule" = false ∧ subC "Nothing" "NoStep" = false ∧ subC "Nothing" "NoMachine" = false ∧ subC "Nothing" "TooLong" = false ∧ subC "Nothing" "NoWord" = false ∧ subC "Nothing" "NoWork" = false ∧ subC "Nothing" "NoBound" = false ∧ subC "Nothing" "TooMany" = false ∧ subC "Nothing" "NoPlace" = false ∧ subC "Nothing" "NoDeed" = false ∧ subC "Nothing" "Nothing" = true ∧ subC "Nothing" "NoText" = false ∧ subC "Nothing" "NoLine" = false := by decide +kernel
theorem sx_NoText : cX.contains "NoText" = true ∧ subC "NoText" "NoRow" = false ∧ subC "NoText" "NoRule" = false ∧ subC "NoText" "NoStep" = false ∧ subC "NoText" "NoMachine" = false ∧ subC "NoText" "TooLong" = false ∧ subC "NoText" "NoWord" = false ∧ subC "NoText" "NoWork" = false ∧ subC "NoText" "NoBound" = false ∧ subC "NoText" "TooMany" = false ∧ subC "NoText" "NoPlace" = false ∧ subC "NoText" "NoDeed" = false ∧ subC "NoText" "Nothing" = false ∧ subC "NoText" "NoText" = true ∧ subC "NoText" "NoLine" = false := by decide +kernel
theorem sx_NoLine : cX.contains "NoLine" = true ∧ subC "NoLine" "NoRow" = false ∧ subC "NoLine" "NoRule" = false ∧ subC "NoLine" "NoStep" = false ∧ subC "NoLine" "NoMachine" = false ∧ subC "NoLine" "TooLong" = false ∧ subC "NoLine" "NoWord" = false ∧ subC "NoLine" "NoWork" = false ∧ subC "NoLine" "NoBound" = false ∧ subC "NoLine" "TooMany" = false ∧ subC "NoLine" "NoPlace" = false ∧ subC "NoLine" "NoDeed" = false ∧ subC "NoLine" "Nothing" = false ∧ subC "NoLine" "NoText" = false ∧ subC "NoLine" "NoLine" = true := by decide +kernel
theorem sub_deed {nm : Str} : subC nm "DeedError" = true := by unfold subC; simp
theorem sub_val {nm : Str} : subC nm "ValueError" = true := by unfold subC; simp
theorem Told.has {nm : Str} {fs : List (Str × Int)} {ws : List D} (t : Told nm fs ws) : cX.contains nm = true := by
  cases t
  · exact sx_NoRow.1
  · exact sx_NoRule.1
  · exact sx_NoStep.1
  · exact sx_NoMachine.1
  · exact sx_TooLong.1
  · exact sx_NoWord.1
  · exact sx_NoWork.1
  · exact sx_NoBound.1
  · exact sx_TooMany.1
  · exact sx_NoPlace.1
  · exact sx_NoDeed.1
  · exact sx_Nothing.1
  · exact sx_NoText.1
  · exact sx_NoLine.1
theorem Told.one {nm : Str} {fs : List (Str × Int)} {ws : List D} (t : Told nm fs ws) : ([subC nm "NoRow", subC nm "NoRule", subC nm "NoStep", subC nm "NoMachine", subC nm "TooLong", subC nm "NoWord", subC nm "NoWork", subC nm "NoBound", subC nm "TooMany", subC nm "NoPlace", subC nm "NoDeed", subC nm "Nothing", subC nm "NoText", subC nm "NoLine"]).count true = 1 := by
  cases t
  · simp only [sx_NoRow]; decide
  · simp only [sx_NoRule]; decide
  · simp only [sx_NoStep]; decide
  · simp only [sx_NoMachine]; decide
  · simp only [sx_TooLong]; decide
  · simp only [sx_NoWord]; decide
  · simp only [sx_NoWork]; decide
  · simp only [sx_NoBound]; decide
  · simp only [sx_TooMany]; decide
  · simp only [sx_NoPlace]; decide
  · simp only [sx_NoDeed]; decide
  · simp only [sx_Nothing]; decide
  · simp only [sx_NoText]; decide
  · simp only [sx_NoLine]; decide
def p__law_refusal : DSp := fun ds h Q _ => ∃ (nm : Str) (fs : List (Str × Int)) (ws : List D), ds = [.exc nm fs] ∧ Told nm fs ws ∧ Q (.frz ws) h
/-! slots of _law_refusal: 0 caught, 1 some, 2 words -/
def b__law_refusal (E : DXE) : DTS :=
    (dSeq (dAsg 1 (dNewV (dLst (dCons (dIsX ["DeedError", "NoRow", "NoRule", "NoStep", "NoMachine", "TooLong", "NoWord", "NoWork", "NoBound", "TooMany", "NoPlace", "NoDeed", "Nothing", "NoText", "NoLine"] "NoRow" (dVar 0)) (dCons (dIsX ["DeedError", "NoRow", "NoRule", "NoStep", "NoMachine", "TooLong", "NoWord", "NoWork", "NoBound", "TooMany", "NoPlace", "NoDeed", "Nothing", "NoText", "NoLine"] "NoRule" (dVar 0)) (dCons (dIsX ["DeedError", "NoRow", "NoRule", "NoStep", "NoMachine", "TooLong", "NoWord", "NoWork", "NoBound", "TooMany", "NoPlace", "NoDeed", "Nothing", "NoText", "NoLine"] "NoStep" (dVar 0)) dNil))))))
    (dSeq (dAsg 1 (dNewV (dCatE (dVar 1) (dLst (dCons (dIsX ["DeedError", "NoRow", "NoRule", "NoStep", "NoMachine", "TooLong", "NoWord", "NoWork", "NoBound", "TooMany", "NoPlace", "NoDeed", "Nothing", "NoText", "NoLine"] "NoMachine" (dVar 0)) (dCons (dIsX ["DeedError", "NoRow", "NoRule", "NoStep", "NoMachine", "TooLong", "NoWord", "NoWork", "NoBound", "TooMany", "NoPlace", "NoDeed", "Nothing", "NoText", "NoLine"] "TooLong" (dVar 0)) (dCons (dIsX ["DeedError", "NoRow", "NoRule", "NoStep", "NoMachine", "TooLong", "NoWord", "NoWork", "NoBound", "TooMany", "NoPlace", "NoDeed", "Nothing", "NoText", "NoLine"] "NoWord" (dVar 0)) dNil)))))))
    (dSeq (dAsg 1 (dNewV (dCatE (dVar 1) (dLst (dCons (dIsX ["DeedError", "NoRow", "NoRule", "NoStep", "NoMachine", "TooLong", "NoWord", "NoWork", "NoBound", "TooMany", "NoPlace", "NoDeed", "Nothing", "NoText", "NoLine"] "NoWork" (dVar 0)) (dCons (dIsX ["DeedError", "NoRow", "NoRule", "NoStep", "NoMachine", "TooLong", "NoWord", "NoWork", "NoBound", "TooMany", "NoPlace", "NoDeed", "Nothing", "NoText", "NoLine"] "NoBound" (dVar 0)) (dCons (dIsX ["DeedError", "NoRow", "NoRule", "NoStep", "NoMachine", "TooLong", "NoWord", "NoWork", "NoBound", "TooMany", "NoPlace", "NoDeed", "Nothing", "NoText", "NoLine"] "TooMany" (dVar 0)) dNil)))))))
    (dSeq (dAsg 1 (dNewV (dCatE (dVar 1) (dLst (dCons (dIsX ["DeedError", "NoRow", "NoRule", "NoStep", "NoMachine", "TooLong", "NoWord", "NoWork", "NoBound", "TooMany", "NoPlace", "NoDeed", "Nothing", "NoText", "NoLine"] "NoPlace" (dVar 0)) (dCons (dIsX ["DeedError", "NoRow", "NoRule", "NoStep", "NoMachine", "TooLong", "NoWord", "NoWork", "NoBound", "TooMany", "NoPlace", "NoDeed", "Nothing", "NoText", "NoLine"] "NoDeed" (dVar 0)) (dCons (dIsX ["DeedError", "NoRow", "NoRule", "NoStep", "NoMachine", "TooLong", "NoWord", "NoWork", "NoBound", "TooMany", "NoPlace", "NoDeed", "Nothing", "NoText", "NoLine"] "Nothing" (dVar 0)) dNil)))))))
    (dSeq (dAsg 1 (dNewV (dCatE (dVar 1) (dLst (dCons (dIsX ["DeedError", "NoRow", "NoRule", "NoStep", "NoMachine", "TooLong", "NoWord", "NoWork", "NoBound", "TooMany", "NoPlace", "NoDeed", "Nothing", "NoText", "NoLine"] "NoText" (dVar 0)) (dCons (dIsX ["DeedError", "NoRow", "NoRule", "NoStep", "NoMachine", "TooLong", "NoWord", "NoWork", "NoBound", "TooMany", "NoPlace", "NoDeed", "Nothing", "NoText", "NoLine"] "NoLine" (dVar 0)) dNil))))))
    (dSeq (dIf (dOr (dB (dBin (rEqD' true) (dMeth rCntD (dVar 1) (dCons (dC (.bl true)) dNil)) (dC (.int 1)))) (dOr (dNot (dB (dIsX ["DeedError", "NoRow", "NoRule", "NoStep", "NoMachine", "TooLong", "NoWord", "NoWork", "NoBound", "TooMany", "NoPlace", "NoDeed", "Nothing", "NoText", "NoLine"] "DeedError" (dVar 0)))) (dNot (dB (dIsX ["DeedError", "NoRow", "NoRule", "NoStep", "NoMachine", "TooLong", "NoWord", "NoWork", "NoBound", "TooMany", "NoPlace", "NoDeed", "Nothing", "NoText", "NoLine"] "ValueError" (dVar 0)))))) (dRet (dNewV (dLst (dCons (dC (.str "odd")) dNil)))) dNext)
    (dSeq (dIf (dB (dBin rIxE (dVar 1) (dC (.int 0)))) (dRet (dNewV (dLst (dCons (dC (.str "row")) (dCons (dFldX ["DeedError", "NoRow", "NoRule", "NoStep", "NoMachine", "TooLong", "NoWord", "NoWork", "NoBound", "TooMany", "NoPlace", "NoDeed", "Nothing", "NoText", "NoLine"] "place" (dVar 0)) dNil))))) dNext)
    (dSeq (dIf (dB (dBin rIxE (dVar 1) (dC (.int 1)))) (dRet (dNewV (dLst (dCons (dC (.str "rule")) (dCons (dFldX ["DeedError", "NoRow", "NoRule", "NoStep", "NoMachine", "TooLong", "NoWord", "NoWork", "NoBound", "TooMany", "NoPlace", "NoDeed", "Nothing", "NoText", "NoLine"] "number" (dVar 0)) dNil))))) dNext)
    (dSeq (dIf (dB (dBin rIxE (dVar 1) (dC (.int 2)))) (dRet (dNewV (dLst (dCons (dC (.str "step")) (dCons (dFldX ["DeedError", "NoRow", "NoRule", "NoStep", "NoMachine", "TooLong", "NoWord", "NoWork", "NoBound", "TooMany", "NoPlace", "NoDeed", "Nothing", "NoText", "NoLine"] "place" (dVar 0)) dNil))))) dNext)
    (dSeq (dAsg 2 (dNewV (dLst (dCons (dC (.str "machine")) (dCons (dC (.str "long")) (dCons (dC (.str "word")) (dCons (dC (.str "work")) (dCons (dC (.str "bound")) (dCons (dC (.str "many")) (dCons (dC (.str "place")) (dCons (dC (.str "deed")) (dCons (dC (.str "nothing")) (dCons (dC (.str "text")) (dCons (dC (.str "line")) dNil))))))))))))))
    (dRet (dNewV (dLst (dCons (dBin rIxE (dVar 2) (dBin rSubI (dMeth rIdxD (dVar 1) (dCons (dC (.bl true)) dNil)) (dC (.int 3)))) dNil))))))))))))))
theorem pure__law_refusal : ∀ ds h Q E, p__law_refusal ds h Q E → dFn 3 b__law_refusal ds h Q E := by
  rintro ds h Q E ⟨nm, fs, ws, rfl, t, q⟩
  have th := t.has
  unfold cX at th
  unfold b__law_refusal
  k_call_by "st" th
  refine ⟨by decide, by decide, by decide, by decide, by decide, by decide, by decide, by decide, by decide, ?_⟩
  refine cnt_bls [subC nm "NoRow", subC nm "NoRule", subC nm "NoStep", subC nm "NoMachine", subC nm "TooLong", subC nm "NoWord", subC nm "NoWork", subC nm "NoBound", subC nm "TooMany", subC nm "NoPlace", subC nm "NoDeed", subC nm "Nothing", subC nm "NoText", subC nm "NoLine"] ?_
  rw [t.one]
  k_call_by "st" sub_deed sub_val
  rw [show (!decide (((1 : Nat) : Int) = 1)) = false from rfl, iteB_f]
  cases t with
  | row i =>
    simp only [sx_NoRow, iteB_t, iteB_f]
    exact optAt_eq (a := i) (by simp [List.lookup]) ⟨by decide, wk_of q⟩
  | rule i =>
    simp only [sx_NoRule, iteB_t, iteB_f]
    exact optAt_eq (a := i) (by simp [List.lookup]) ⟨by decide, wk_of q⟩
  | step i =>
    simp only [sx_NoStep, iteB_t, iteB_f]
    exact optAt_eq (a := i) (by simp [List.lookup]) ⟨by decide, wk_of q⟩
  | machine =>
    simp only [sx_NoMachine, iteB_t, iteB_f]
    refine ⟨by decide, idx_bls [false, false, false, true, false, false, false, false, false, false, false, false, false, false] 3 rfl (by decide) ?_⟩
    rw [asI_int]
    exact optAt_eq (a := .str "machine") rfl ⟨by decide, wk_of q⟩
  | long =>
    simp only [sx_TooLong, iteB_t, iteB_f]
    refine ⟨by decide, idx_bls [false, false, false, false, true, false, false, false, false, false, false, false, false, false] 4 rfl (by decide) ?_⟩
    rw [asI_int]
    exact optAt_eq (a := .str "long") rfl ⟨by decide, wk_of q⟩
  | word =>
    simp only [sx_NoWord, iteB_t, iteB_f]
    refine ⟨by decide, idx_bls [false, false, false, false, false, true, false, false, false, false, false, false, false, false] 5 rfl (by decide) ?_⟩
    rw [asI_int]
    exact optAt_eq (a := .str "word") rfl ⟨by decide, wk_of q⟩
  | work =>
    simp only [sx_NoWork, iteB_t, iteB_f]
    refine ⟨by decide, idx_bls [false, false, false, false, false, false, true, false, false, false, false, false, false, false] 6 rfl (by decide) ?_⟩
    rw [asI_int]
    exact optAt_eq (a := .str "work") rfl ⟨by decide, wk_of q⟩
  | bound =>
    simp only [sx_NoBound, iteB_t, iteB_f]
    refine ⟨by decide, idx_bls [false, false, false, false, false, false, false, true, false, false, false, false, false, false] 7 rfl (by decide) ?_⟩
    rw [asI_int]
    exact optAt_eq (a := .str "bound") rfl ⟨by decide, wk_of q⟩
  | many =>
    simp only [sx_TooMany, iteB_t, iteB_f]
    refine ⟨by decide, idx_bls [false, false, false, false, false, false, false, false, true, false, false, false, false, false] 8 rfl (by decide) ?_⟩
    rw [asI_int]
    exact optAt_eq (a := .str "many") rfl ⟨by decide, wk_of q⟩
  | place =>
    simp only [sx_NoPlace, iteB_t, iteB_f]
    refine ⟨by decide, idx_bls [false, false, false, false, false, false, false, false, false, true, false, false, false, false] 9 rfl (by decide) ?_⟩
    rw [asI_int]
    exact optAt_eq (a := .str "place") rfl ⟨by decide, wk_of q⟩
  | deed =>
    simp only [sx_NoDeed, iteB_t, iteB_f]
    refine ⟨by decide, idx_bls [false, false, false, false, false, false, false, false, false, false, true, false, false, false] 10 rfl (by decide) ?_⟩
    rw [asI_int]
    exact optAt_eq (a := .str "deed") rfl ⟨by decide, wk_of q⟩
  | nothing =>
    simp only [sx_Nothing, iteB_t, iteB_f]
    refine ⟨by decide, idx_bls [false, false, false, false, false, false, false, false, false, false, false, true, false, false] 11 rfl (by decide) ?_⟩
    rw [asI_int]
    exact optAt_eq (a := .str "nothing") rfl ⟨by decide, wk_of q⟩
  | text =>
    simp only [sx_NoText, iteB_t, iteB_f]
    refine ⟨by decide, idx_bls [false, false, false, false, false, false, false, false, false, false, false, false, true, false] 12 rfl (by decide) ?_⟩
    rw [asI_int]
    exact optAt_eq (a := .str "text") rfl ⟨by decide, wk_of q⟩
  | line =>
    simp only [sx_NoLine, iteB_t, iteB_f]
    refine ⟨by decide, idx_bls [false, false, false, false, false, false, false, false, false, false, false, false, false, true] 13 rfl (by decide) ?_⟩
    rw [asI_int]
    exact optAt_eq (a := .str "line") rfl ⟨by decide, wk_of q⟩
/-! ### what is due of a row -/
def fld : List (Str × Int) → Int
  | (_, i) :: _ => i
  | [] => 0
/-- a refusal in words -/
def wordsOf (r : Rf) : List D :=
  if r.1 = "NoRow" then [.str "row", .int (fld r.2)] else if r.1 = "NoRule" then [.str "rule", .int (fld r.2)] else if r.1 = "NoStep" then [.str "step", .int (fld r.2)]
  else if r.1 = "NoMachine" then [.str "machine"] else if r.1 = "TooLong" then [.str "long"] else if r.1 = "NoWord" then [.str "word"] else if r.1 = "NoWork" then [.str "work"] else if r.1 = "NoBound" then [.str "bound"]
  else if r.1 = "TooMany" then [.str "many"] else if r.1 = "NoPlace" then [.str "place"] else if r.1 = "NoDeed" then [.str "deed"] else if r.1 = "Nothing" then [.str "nothing"] else if r.1 = "NoText" then [.str "text"] else [.str "line"]
theorem Told.words {nm : Str} {fs : List (Str × Int)} {ws : List D} (t : Told nm fs ws) : wordsOf (nm, fs) = ws := by
  cases t <;> unfold wordsOf <;> dsimp only
  · rw [if_pos rfl]; rfl
  · rw [if_neg (by decide +kernel), if_pos rfl]; rfl
  · rw [if_neg (by decide +kernel), if_neg (by decide +kernel), if_pos rfl]; rfl
  all_goals
    repeat (first | rw [if_pos rfl] | rw [if_neg (by decide +kernel)])
theorem w_machine : wordsOf rfMachine = [.str "machine"] := Told.machine.words
theorem w_long : wordsOf rfLong = [.str "long"] := Told.long.words
theorem w_row {i : Int} : wordsOf (rfRow i) = [.str "row", .int i] := (Told.row i).words
/-- the refusals that there are -/
def Rfs (r : Rf) : Prop := Told r.1 r.2 (wordsOf r)
theorem rfs_of {nm : Str} {fs : List (Str × Int)} {ws : List D} (t : Told nm fs ws) : Rfs (nm, fs) := by
  unfold Rfs
  rw [t.words]; exact t
theorem needRow_rfs {dm dr : D} {r : Rf} (e : needRow dm dr = some r) : Rfs r := by
  unfold needRow at e
  cases c : isMach dm with
  | false => rw [c] at e; cases e; exact rfs_of .machine
  | true =>
    rw [c] at e
    have e : rowRef (nDeeds dm) dr = some r := e
    have key : ∀ ds, rowL (nDeeds dm) ds = some r → Rfs r := fun ds z => by
      unfold rowL at z
      split at z
      · cases z; exact rfs_of (.row _)
      · split at z
        · cases z; exact rfs_of .long
        · cases z
    cases dr with
    | frz ds => exact key ds e
    | _ => cases e; exact rfs_of (.row 0)
def dueD : Option Rf → D
  | none => .non
  | some r => .frz (wordsOf r)
theorem Told.th {nm : Str} {fs : List (Str × Int)} {ws : List D} {n : Nat} (k : Told nm fs ws) : Th (n + 1) (.frz ws) := by
  have : ws.length ≤ 1000 + n ∧ ∀ x ∈ ws, Th n x := by
    cases k <;> refine ⟨by simp; omega, fun x hx => ?_⟩ <;> simp at hx
    all_goals first
      | (rcases hx with rfl | rfl
         · exact Th_str (by decide +kernel) (by decide +kernel)
         · exact .int)
      | (rw [hx]; exact Th_str (by decide +kernel) (by decide +kernel))
  exact .frz this.1 this.2
theorem Th_words {r : Rf} {n : Nat} (k : Rfs r) : Th (n + 1) (.frz (wordsOf r)) := Told.th k
def p__law_row_due : DSp := fun ds h Q _ => ∃ dm dr, ds = [dm, dr] ∧ T dm ∧ T dr ∧ Q (dueD (needRow dm dr)) h
/-! slots of _law_row_due: 0 machine, 1 row, 2 place, 3 number -/
def b__law_row_due (E : DXE) : DTS :=
    (dSeq (dIf (dNot (dB (dCall p__law_is_machine 1 E (dCons (dVar 0) dNil)))) (dRet (dNewV (dLst (dCons (dC (.str "machine")) dNil)))) dNext)
    (dSeq (dIf (dNot (dB (dIsi "list" (dVar 1)))) (dRet (dNewV (dLst (dCons (dC (.str "row")) (dCons (dC (.int 0)) dNil))))) dNext)
    (dSeq (dFor (dEnum (dCons (dVar 1) dNil)) (.tup [2, 3]) (dIf (dNot (dB (dCall p__law_is_in 3 E (dCons (dVar 3) (dCons (dC (.int 0)) (dCons (dBin rSubI (dCB rLenE (dCons (dBin rIxE (dVar 0) (dC (.int 2))) dNil)) (dC (.int 1))) dNil)))))) (dRet (dNewV (dLst (dCons (dC (.str "row")) (dCons (dVar 2) dNil))))) dNext))
    (dRet (dIfE (dB (dBin rGtI (dCB rLenE (dCons (dVar 1) dNil)) (dC (.int 40)))) (dNewV (dLst (dCons (dC (.str "long")) dNil))) (dC .non))))))
theorem ix_mach2 {m : Mach} {h : DH} {Q : DK} : rIxE m.enc (.int 2) h Q = Q (.tup (m.ds.map Deed.enc)) h := rfl
theorem pure__law_row_due : ∀ ds h Q E, p__law_row_due ds h Q E → dFn 4 b__law_row_due ds h Q E := by
  rintro ds h Q E ⟨dm, dr, rfl, tm, tr, q⟩
  unfold b__law_row_due
  walk_at "st"
  refine ⟨tm, ?_⟩
  cases i : isMach dm with
  | false =>
    rw [needRow_no i] at q
    simp only [dueD, w_machine] at q
    walk_at "st"
    exact ⟨by decide, wk_of q⟩
  | true =>
    obtain ⟨m, k, rfl⟩ := isMach_dec i
    rw [needRow_enc k] at q
    have d1 := k.d1
    walk_at "st"
    rw [tyName_eq tr.kn]
    have e2 : ((m.ds.map Deed.enc).length : Int) = (m.ds.length : Nat) := by simp
    cases dr with
    | frz ds =>
      obtain ⟨sz, km⟩ := tr.frz
      have q : Q (dueD (rowL m.ds.length ds)) h := q
      walk_at "st"
      refine loop_inv (fun r' env h' => h' = h ∧ (∃ x2 x3, env = [some m.enc, some (.frz ds), x2, x3]) ∧ ∃ (rest : List D) (j : Nat), r' = (rest.zipIdx j).map (fun p => .tup [.int (p.2 : Nat), p.1]) ∧ (∀ x ∈ rest, Kn x) ∧ firstBad m.ds.length rest j = firstBad m.ds.length ds 0) (fun x r' K hK env h' hI => ?_) (fun env h' hI => ?_) _ _ _ ⟨rfl, ⟨_, _, rfl⟩, ds, 0, rfl, fun x hx => (km x hx).kn, rfl⟩
      · obtain ⟨rfl, ⟨x2, x3, rfl⟩, rest, j, er, kr, hf⟩ := hI
        refine ⟨trivial, ?_⟩
        cases rest with
        | nil => cases er
        | cons d rest =>
          rw [List.zipIdx_cons, List.map_cons] at er
          cases er
          cell_end setsD ix_mach2 e2
          refine ⟨kr d (List.mem_cons_self ..), ?_⟩
          refine iteB_of (fun c => ?_) fun c => ?_
          · have c' : isIn 0 ((m.ds.length : Int) - 1) d = false := by simpa using c
            rw [firstBad, c', if_neg Bool.false_ne_true] at hf
            unfold rowL at q
            rw [← hf] at q
            simp only [dueD, w_row] at q
            exact ⟨by decide, wk_of q⟩
          · have c' : isIn 0 ((m.ds.length : Int) - 1) d = true := by simpa using c
            rw [firstBad, if_pos c'] at hf
            exact hK _ _ ⟨rfl, ⟨_, _, rfl⟩, rest, j + 1, rfl, fun x hx => kr x (List.mem_cons_of_mem _ hx), hf⟩
      · obtain ⟨rfl, ⟨x2, x3, rfl⟩, rest, j, er, kr, hf⟩ := hI
        refine ⟨trivial, ?_⟩
        cases rest with
        | cons d rest => cases er
        | nil =>
          unfold rowL at q
          rw [← hf] at q
          have q : Q (dueD (if 40 < ds.length then some rfLong else none)) h' := q
          walk_at "st"
          refine iteB_of (fun c => ?_) fun c => ?_
          · have c' := of_decide_eq_true c
            rw [if_pos (by omega)] at q
            simp only [dueD, w_long] at q
            exact ⟨by decide, wk_of q⟩
          · have c' := of_decide_eq_false c
            rw [if_neg (by omega)] at q
            exact wk_of q
    | ref a => cases tr
    | scr a => cases tr
    | exc nm fs => cases tr
    | _ =>
      have q : Q (dueD (some (rfRow 0))) h := q
      simp only [dueD, w_row] at q
      walk_at "st"
      exact ⟨by decide, wk_of q⟩
/-! ### things that are shown; calls -/
theorem Th_mach {m : Mach} (k : m.ok) : Th 5 m.enc := by
  refine .tup (small_len (by simp)) fun x hx => ?_
  simp at hx
  rcases hx with rfl | rfl | rfl
  · exact .int
  · exact .int
  · refine .tup (small_len (by have := k.d6; simp; omega)) fun x hx => ?_
    obtain ⟨d, hd, rfl⟩ := List.mem_map.mp hx
    exact Th_deed (k.dk d hd) (by have := k.w4; omega)
theorem Th_one {d : D} {n : Nat} (t : Th n d) : Th (n + 1) (.frz [d]) := .frz (by simp; omega) fun x hx => by simp at hx; rw [hx]; exact t
/-- things whose repr is short -/
def Od (d : D) : Prop := Th 4 d ∧ Sm 2000 d
/-- the things of rows -/
def El (d : D) : Prop := Th 2 d ∧ Sm 6 d
theorem El.list {ds : List D} (h : ∀ x ∈ ds, El x) (hl : ds.length ≤ 200) : Od (.frz ds) := ⟨.frz (by omega) fun x hx => (h x hx).1.mono (by decide), (Sm.frz fun x hx => (h x hx).2).mono (by omega)⟩
theorem El.tuple {ds : List D} (h : ∀ x ∈ ds, El x) (hl : ds.length ≤ 200) : Od (.tup ds) := ⟨.tup (by omega) fun x hx => (h x hx).1.mono (by decide), (Sm.tup fun x hx => (h x hx).2).mono (by omega)⟩
theorem El.int {i : Int} (h1 : -50 ≤ i) (h2 : i < 50) : El (.int i) := ⟨.int, .small h1 h2⟩
theorem El.nats {m : Mach} {r : List Nat} (k : m.ok) (hr : rowOk m r) : ∀ x ∈ natsD r, El x := fun x hx => by
  obtain ⟨i, hi, rfl⟩ := List.mem_map.mp hx
  have := hr i hi
  have := k.d6
  exact .int (by omega) (by omega)
theorem El.app {A B : List D} (ha : ∀ x ∈ A, El x) (hb : ∀ x ∈ B, El x) : ∀ x ∈ A ++ B, El x := fun x hx => (List.mem_append.mp hx).elim (ha x) (hb x)
theorem El.one {d : D} (h : El d) : ∀ x ∈ [d], El x := fun x hx => by simp at hx; rw [hx]; exact h
theorem El.many {i : Int} (h1 : -50 ≤ i) (h2 : i < 50) (k : Nat) : ∀ x ∈ (List.replicate k [D.int i]).flatten, El x := fun x hx => by
  simp at hx
  rw [hx.2]; exact .int h1 h2
theorem many_len {d : D} {k : Nat} : (List.replicate k [d]).flatten.length = k := by simp
theorem El.take {A : List D} {k : Nat} (ha : ∀ x ∈ A, El x) : ∀ x ∈ A.take k, El x := fun x hx => ha x (List.mem_of_mem_take hx)
theorem El.drop {A : List D} {k : Nat} (ha : ∀ x ∈ A, El x) : ∀ x ∈ A.drop k, El x := fun x hx => ha x (List.mem_of_mem_drop hx)
theorem Od.non : Od .non := ⟨.non, .non⟩
theorem Od.T {d : D} (o : Od d) : T d := o.1.mono (by decide)
theorem row_call {m : Mach} {p cc : Addr} {n most : Nat} {h : DH} {Q : DK} {E : DX} (k : m.ok) (hm : most ≤ 40) (hp : PenAt h p cc n) (hn : n + 100 ≤ BIG) (q : ∀ (r : List Nat) (h1 : DH), rowOk m r → r.length ≤ most → PenAt h1 p cc (n + 100) → But p h h1 → Q (rowD r) h1) : p__law_row [.ref p, m.enc, .int (most : Int)] h Q E :=
  ⟨p, cc, n, most, m, rfl, k, hm, hp, hn, q⟩
theorem bent0_call {p cc : Addr} {n : Nat} {h : DH} {Q : DK} {E : DX} (hp : PenAt h p cc n) (hn : n + 10 ≤ BIG) (q : ∀ (r : D) (h' : DH), El r → PenAt h' p cc (n + 10) → But p h h' → Q r h') : p__law_bent [.ref p, .int 0, .int 0] h Q E :=
  ⟨p, .int 0, n, cc, 0, 0, rfl, by decide, hp, by omega, .int, by decide, fun r h' t s a b => q r h' ⟨t.mono (by decide), s rfl⟩ a b⟩
theorem bent_call {p cc : Addr} {n dp j : Nat} {t : D} {h : DH} {Q : DK} {E : DX} (hp : PenAt h p cc n) (hd : dp < 12) (hn : n + 200 ≤ BIG) (ht : Th j t) (hj : j ≤ 50) (q : ∀ (r : D) (h' : DH), Th (j + 1) r → PenAt h' p cc (n + 200) → But p h h' → Q r h') : p__law_bent [.ref p, t, .int (dp : Int)] h Q E :=
  ⟨p, t, n, cc, j, dp, rfl, hd, hp, by omega, ht, hj, fun r h' t _ a b => q r h' t (a.mono (by omega)) b⟩
theorem anew_call {p cc : Addr} {n : Nat} {h : DH} {Q : DK} {E : DX} (hp : PenAt h p cc n) (q : ∀ h', PenAt h' p cc n → But p h h' → Q (.ref p) h') : p__law_anew [.ref p] h Q E := ⟨n, cc, hp, q⟩
theorem mach_call {p cc : Addr} {n w l most : Nat} {h : DH} {Q : DK} {E : DX} (hp : PenAt h p cc n) (hn : n + 1000 ≤ BIG) (q : ∀ (m : Mach) (h' : DH), m.ok → m.w ≤ w → m.pl ≤ l → m.ds.length ≤ most → PenAt h' p cc (n + 1000) → But p h h' → Q m.enc h')
    (w2 : 2 ≤ w := by decide) (w4 : w ≤ 4 := by decide) (l1 : 1 ≤ l := by decide) (l2 : l ≤ 2 := by decide) (m1 : 1 ≤ most := by decide) (m6 : most ≤ 6 := by decide) : p__law_machine [.ref p, .int (w : Int), .int (l : Int), .int (most : Int)] h Q E :=
  ⟨n, cc, by omega, by omega, by omega, by omega, by omega, by omega, hp, hn, fun m h' k a b c d e => q m h' k (by omega) (by omega) (by omega) d e⟩
/-- the pen stands apart -/
theorem PenAt.away {h : DH} {p cc b : Addr} {n : Nat} (a : PenAt h p cc n) (z : h b = none) : b ≠ p ∧ b ≠ cc := by
  obtain ⟨m, s, cells, e1, e2, _⟩ := a
  exact ⟨fun e => (by rw [e, e1] at z; cases z), fun e => (by rw [e, e2] at z; cases z)⟩
theorem PenAt.up {h : DH} {p cc b : Addr} {n : Nat} {o : DO} (a : PenAt h p cc n) (ne : b ≠ p ∧ b ≠ cc) : PenAt (up h b o) p cc n := by
  obtain ⟨m, s, cells, e1, e2, r⟩ := a
  exact ⟨m, s, cells, by rw [up_ne (Ne.symm ne.1)]; exact e1, by rw [up_ne (Ne.symm ne.2)]; exact e2, r⟩
/-- no draw but of the pen changed a list -/
theorem But.at_ {p b cc : Addr} {h h' : DH} {o : DO} (x : But p h h') (ne : b ≠ p ∧ b ≠ cc) (e : h b = some o) : h' b = some o := by rw [x b ne.1]; exact e
theorem hsz {n : Nat} (h : n ≤ 1000) : n ≤ sizeLine := small_size h
theorem rep_sz {k : Int} {n : Nat} (h1 : 0 ≤ k) (h2 : k ≤ 1000) (hn : n ≤ 1000) : -(2 ^ 63) ≤ k ∧ k < 2 ^ 63 ∧ n * k.toNat ≤ sizeLine := ⟨by omega, by omega, Nat.le_trans (Nat.mul_le_mul hn (show k.toNat ≤ 1000 by omega)) (by decide)⟩
/-! ### equality of values without truths -/
mutual
def nb : D → Bool
  | .non => true
  | .int _ => true
  | .str _ => true
  | .tup ds => nbs ds
  | .frz ds => nbs ds
  | _ => false
def nbs : List D → Bool
  | [] => true
  | d :: ds => nb d && nbs ds
end
mutual
theorem eqv_inj : ∀ d e : D, nb d = true → nb e = true → PyData.eqv (pd d) (pd e) = true → d = e
  | .non, e, _, h2, h => by cases e <;> simp [nb, pd, PyData.eqv] at h2 h ⊢
  | .int i, e, _, h2, h => by cases e <;> simp [nb, pd, PyData.eqv] at h2 h ⊢; exact h
  | .str i, e, _, h2, h => by cases e <;> simp [nb, pd, PyData.eqv] at h2 h ⊢; exact h
  | .tup ds, e, h1, h2, h => by
    cases e <;> simp only [nb, pd, PyData.eqv, Bool.false_eq_true, reduceCtorEq] at h1 h2 h ⊢
    rw [eqvs_inj ds _ h1 h2 h]
  | .frz ds, e, h1, h2, h => by
    cases e <;> simp only [nb, pd, PyData.eqv, Bool.false_eq_true, reduceCtorEq] at h1 h2 h ⊢
    rw [eqvs_inj ds _ h1 h2 h]
  | .bl _, e, h1, h2, h => by simp [nb] at h1
  | .scr _, e, h1, h2, h => by simp [nb] at h1
  | .ref _, e, h1, h2, h => by simp [nb] at h1
  | .exc _ _, e, h1, h2, h => by simp [nb] at h1
theorem eqvs_inj : ∀ ds es : List D, nbs ds = true → nbs es = true → PyData.eqvAll (pds ds) (pds es) = true → ds = es
  | [], [], _, _, _ => rfl
  | [], _ :: _, _, _, h => by simp [pds, PyData.eqvAll] at h
  | _ :: _, [], _, _, h => by simp [pds, PyData.eqvAll] at h
  | d :: ds, e :: es, h1, h2, h => by
    simp only [nbs, Bool.and_eq_true] at h1 h2
    simp only [pds, PyData.eqvAll, Bool.and_eq_true] at h
    rw [eqv_inj d e h1.1 h2.1 h.1, eqvs_inj ds es h1.2 h2.2 h.2]
end
mutual
theorem eqv_self : ∀ d : D, nb d = true → PyData.eqv (pd d) (pd d) = true
  | .non, _ => by simp [pd, PyData.eqv]
  | .int i, _ => by simp [pd, PyData.eqv]
  | .str i, _ => by simp [pd, PyData.eqv]
  | .tup ds, h => by
    simp only [nb] at h
    simp only [pd, PyData.eqv]
    exact eqvs_self ds h
  | .frz ds, h => by
    simp only [nb] at h
    simp only [pd, PyData.eqv]
    exact eqvs_self ds h
  | .bl _, h1 => by simp [nb] at h1
  | .scr _, h1 => by simp [nb] at h1
  | .ref _, h1 => by simp [nb] at h1
  | .exc _ _, h1 => by simp [nb] at h1
theorem eqvs_self : ∀ ds : List D, nbs ds = true → PyData.eqvAll (pds ds) (pds ds) = true
  | [], _ => by simp [pds, PyData.eqvAll]
  | d :: ds, h => by
    simp only [nbs, Bool.and_eq_true] at h
    simp only [pds, PyData.eqvAll, Bool.and_eq_true]
    exact ⟨eqv_self d h.1, eqvs_self ds h.2⟩
end
theorem eqV_iff {d e : D} (h1 : nb d = true) (h2 : nb e = true) : eqV d e = true ↔ d = e := ⟨eqv_inj d e h1 h2, fun h => by subst h; exact eqv_self d h1⟩
theorem nbs_of {ds : List D} (h : ∀ x ∈ ds, nb x = true) : nbs ds = true := by
  induction ds with
  | nil => rfl
  | cons d ds ih => simp only [nbs, Bool.and_eq_true]; exact ⟨h d (List.mem_cons_self ..), ih fun x hx => h x (List.mem_cons_of_mem _ hx)⟩
theorem nb_nats {l : List Nat} : nbs (natsD l) = true := nbs_of fun x hx => by
  obtain ⟨i, _, rfl⟩ := List.mem_map.mp hx
  rfl
theorem nb_end {e : List Nat} : nb (endD e) = true := nb_nats
theorem nb_row {e : List Nat} : nb (rowD e) = true := nb_nats
theorem nb_ends {b : List (List Nat)} : nbs (endsD b) = true := nbs_of fun x hx => by
  obtain ⟨i, _, rfl⟩ := List.mem_map.mp hx
  exact nb_end
theorem ends_inj {x y : List (List Nat)} (e : endsD x = endsD y) : x = y := tabs_inj e
theorem eqV_dec {d e : D} {P : Prop} [Decidable P] (h1 : nb d = true) (h2 : nb e = true) (i : d = e ↔ P) : eqV d e = decide P := by
  rw [Bool.eq_iff_iff, eqV_iff h1 h2, decide_eq_true_iff]; exact i
theorem eqV_end {x y : List Nat} : eqV (endD x) (endD y) = decide (x = y) := eqV_dec nb_end nb_end ⟨fun e => nats_inj (D.tup.inj e), fun e => by rw [e]⟩
theorem eqV_row {x y : List Nat} : eqV (rowD x) (rowD y) = decide (x = y) := eqV_dec nb_row nb_row ⟨fun e => nats_inj (D.frz.inj e), fun e => by rw [e]⟩
theorem eqV_ends {x y : List (List Nat)} : eqV (.tup (endsD x)) (.tup (endsD y)) = decide (x = y) := eqV_dec nb_ends nb_ends ⟨fun e => ends_inj (D.tup.inj e), fun e => by rw [e]⟩
/-- data compared, both things of which are known -/
theorem eq_th {neg : Bool} {h : DH} {d e : D} {n m : Nat} {b : Bool} {Q : DK} (t : Th n d) (u : Th m e) (hn : n ≤ 64) (hm : m ≤ 64) (eb : eqV d e = b) (q : Q (.bl (xor neg b)) h) : rEqD' neg d e h Q := rEq_of t u hn hm (by rw [eb]; exact q)
/-! ### the first beginning at which two behaviours part -/
def unlike : List (List Nat) → List (List Nat) → List (List Nat) → Option (List Nat)
  | b :: bs, u :: x, v :: y => if u = v then unlike bs x y else some b
  | _, _, _ => none
theorem unlike_mem : ∀ {bs x y : List (List Nat)} {b : List Nat}, unlike bs x y = some b → b ∈ bs
  | [], _, _, _, h => by simp [unlike] at h
  | _ :: _, [], _, _, h => by simp [unlike] at h
  | _ :: _, _ :: _, [], _, h => by simp [unlike] at h
  | b :: bs, u :: x, v :: y, c, h => by
    simp only [unlike] at h
    split at h
    · exact List.mem_cons_of_mem _ (unlike_mem h)
    · cases h; exact List.mem_cons_self ..
theorem unlike_self : ∀ {bs x : List (List Nat)}, unlike bs x x = none
  | [], _ => by simp [unlike]
  | _ :: _, [] => rfl
  | _ :: _, _ :: _ => by simp only [unlike, if_true]; exact unlike_self
theorem unlike_none : ∀ {bs x y : List (List Nat)}, x.length = bs.length → y.length = bs.length → unlike bs x y = none → x = y
  | [], [], [], _, _, _ => rfl
  | [], _ :: _, _, h, _, _ => by simp at h
  | [], _, _ :: _, _, h, _ => by simp at h
  | _ :: _, [], _, h, _, _ => by simp at h
  | _ :: _, _ :: _, [], _, h, _ => by simp at h
  | b :: bs, u :: x, v :: y, h1, h2, e => by
    simp only [unlike] at e
    split at e
    · rename_i q
      rw [q, unlike_none (by simpa using h1) (by simpa using h2) e]
    · cases e
def optD : Option (List Nat) → D
  | none => .non
  | some e => endD e
theorem Th_opt {o : Option (List Nat)} {n : Nat} (hl : ∀ e, o = some e → e.length ≤ 1000) : Th (n + 1) (optD o) := by
  cases o with
  | none => exact .non
  | some e => exact Th_end (hl e rfl)
theorem isNon_opt {o : Option (List Nat)} : isNon (optD o) = o.isNone := by cases o <;> rfl
def p_first_unlike : DSp := fun ds h Q _ => ∃ (m : Mach) (x y : List (List Nat)), ds = [m.enc, .tup (endsD x), .tup (endsD y)] ∧ m.ok ∧ (∀ e ∈ x, e.length ≤ 1000) ∧ (∀ e ∈ y, e.length ≤ 1000) ∧ Q (optD (unlike (begs m) x y)) h
def partRef (dm d1 d2 : D) : Option Rf := match needRow dm d1 with
  | some r => some r
  | none => needRow dm d2
theorem partRef_none {dm d1 d2 : D} (e : partRef dm d1 d2 = none) : ∃ (m : Mach) (r s : List Nat), m.ok ∧ dm = m.enc ∧ rowOk m r ∧ r.length ≤ 40 ∧ d1 = rowD r ∧ rowOk m s ∧ s.length ≤ 40 ∧ d2 = rowD s := by
  unfold partRef at e
  split at e
  · cases e
  · rename_i e1
    obtain ⟨m, r, k, rfl, hr, hl, rfl⟩ := needRow_none e1
    obtain ⟨m', s, k', em, hs, ls, rfl⟩ := needRow_none e
    have := Mach.inj em
    subst this
    exact ⟨m, r, s, k, rfl, hr, hl, rfl, hs, ls, rfl⟩
theorem partRef_rfs {dm d1 d2 : D} {rf : Rf} (e : partRef dm d1 d2 = some rf) : Rfs rf := by
  unfold partRef at e
  split at e
  · rename_i e1
    cases e
    exact needRow_rfs e1
  · exact needRow_rfs e
def p_parted : DSp := fun ds h Q E => ∃ (dm x1 x2 d1 d2 : D), ds = [dm, x1, x2] ∧ Lv h x1 d1 ∧ Lv h x2 d2 ∧ T dm ∧ T d1 ∧ T d2 ∧ (∀ rf, partRef dm d1 d2 = some rf → E rf.1 rf.2 h) ∧
  ∀ (m : Mach) (r s : List Nat), m.ok → dm = m.enc → rowOk m r → r.length ≤ 40 → d1 = rowD r → rowOk m s → s.length ≤ 40 → d2 = rowD s → Q (optD (unlike (begs m) (beh m r) (beh m s))) h
/-! slots of first_unlike: 0 machine, 1 one, 2 other, 3 beginning, 4 here, 5 there -/
def b_first_unlike (E : DXE) : DTS :=
    (dSeq (dFor (dZip3 (dCons (dCall p_all_beginnings 1 E (dCons (dVar 0) dNil)) (dCons (dVar 1) (dCons (dVar 2) dNil)))) (.tup [3, 4, 5]) (dIf (dB (dBin (rEqD' true) (dVar 4) (dVar 5))) (dRet (dVar 3)) dNext))
    (dRet (dC .non)))
/-! slots of parted: 0 machine, 1 one, 2 other -/
def b_parted (E : DXE) : DTS :=
    (dSeq (dDrop (dCall p_need_row 2 E (dCons (dVar 0) (dCons (dVar 1) dNil))))
    (dSeq (dDrop (dCall p_need_row 2 E (dCons (dVar 0) (dCons (dVar 2) dNil))))
    (dRet (dCall p_first_unlike 3 E (dCons (dVar 0) (dCons (dCall p_through 2 E (dCons (dVar 0) (dCons (dVar 1) dNil))) (dCons (dCall p_through 2 E (dCons (dVar 0) (dCons (dVar 2) dNil))) dNil)))))))
theorem zip3_cons {a b c : D} {x y z : List D} : zip3D (a :: x) (b :: y) (c :: z) = .tup [a, b, c] :: zip3D x y z := rfl
theorem unlike_loop {m : Mach} {h : DH} {x0 x1 x2 x3 x4 x5 : Option D} {Q : DK} {xs ys : List (List Nat)} {chk : DH → Prop} (hc : chk h) (lx : ∀ e ∈ xs, e.length ≤ 1000) (ly : ∀ e ∈ ys, e.length ≤ 1000) (q : Q (optD (unlike (begs m) xs ys)) h) {nx br ct : DEnv → DH → Prop}
    (hn : ∀ env, unlike (begs m) xs ys = none → nx env h) :
    dLoop (.tup [3, 4, 5]) (dIf (dB (dBin (rEqD' true) (dVar 4) (dVar 5))) (dRet (dVar 3)) dNext) chk ⟨nx, wk Q, br, ct⟩ (zip3D (endsD (begs m)) (endsD xs) (endsD ys)) [x0, x1, x2, x3, x4, x5] h := by
  refine loop_inv (fun r env h' => h' = h ∧ (∃ x3 x4 x5, env = [x0, x1, x2, x3, x4, x5]) ∧ ∃ bs x' y', r = zip3D (endsD bs) (endsD x') (endsD y') ∧ unlike bs x' y' = unlike (begs m) xs ys ∧ (∀ e ∈ x', e.length ≤ 1000) ∧ ∀ e ∈ y', e.length ≤ 1000) (fun x r K hK env h' hI => ?_) (fun env h' hI => ?_) _ _ _ ⟨rfl, ⟨_, _, _, rfl⟩, begs m, xs, ys, rfl, rfl, lx, ly⟩
  · obtain ⟨rfl, ⟨x3, x4, x5, rfl⟩, bs, x', y', er, hu, kx, ky⟩ := hI
    refine ⟨hc, ?_⟩
    cases bs with
    | nil => cases er
    | cons b bs =>
      cases x' with
      | nil => cases er
      | cons u x' =>
        cases y' with
        | nil => cases er
        | cons v y' =>
          simp only [endsD, List.map_cons, zip3_cons, List.cons.injEq] at er
          obtain ⟨rfl, rfl⟩ := er
          k_call_by "st" setsD
          refine eq_th (n := 1) (m := 1) (Th_end (kx u (List.mem_cons_self ..))) (Th_end (ky v (List.mem_cons_self ..))) (by decide) (by decide) eqV_end ?_
          simp only [unlike] at hu
          by_cases e : u = v
          · rw [if_pos e] at hu
            k_call_by "st" e
            exact hK _ _ ⟨rfl, ⟨_, _, _, rfl⟩, bs, x', y', rfl, hu, fun z hz => kx z (List.mem_cons_of_mem _ hz), fun z hz => ky z (List.mem_cons_of_mem _ hz)⟩
          · rw [if_neg e] at hu
            rw [← hu] at q
            rw [decide_eq_false e]
            walk_at "st"
            exact wk_of q
  · obtain ⟨rfl, ⟨x3, x4, x5, rfl⟩, bs, x', y', er, hu, kx, ky⟩ := hI
    refine ⟨hc, hn _ ?_⟩
    rw [← hu]
    cases bs with
    | nil => simp [unlike]
    | cons b bs =>
      cases x' with
      | nil => simp [unlike]
      | cons u x' =>
        cases y' with
        | nil => simp [unlike]
        | cons v y' => cases er
theorem pure_first_unlike : ∀ ds h Q E, p_first_unlike ds h Q E → dFn 6 b_first_unlike ds h Q E := by
  rintro ds h Q E ⟨m, x, y, rfl, k, lx, ly, q⟩
  unfold b_first_unlike
  walk_at "st"
  refine ⟨m, rfl, k, ?_⟩
  k_call_by "st" zip3_ftt
  refine unlike_loop ⟨trivial, trivial, trivial⟩ lx ly q fun env e => ?_
  walk_at "st"
  rw [e] at q
  exact wk_of q
theorem pure_parted : ∀ ds h Q E, p_parted ds h Q E → dFn 3 b_parted ds h Q E := by
  rintro ds h Q E ⟨dm, x1, x2, d1, d2, rfl, lv1, lv2, tm, t1, t2, q1, q2⟩
  have ls : ∀ {x : D} {r : List Nat}, Lv h x (rowD r) → LsAt h x (natsD r) := fun {x r} lv => by
    rcases lv with z | ⟨a, l, z1, z2, z3⟩
    · exact .inl z
    · cases z3
      exact .inr ⟨a, z1, z2⟩
  unfold b_parted
  walk_at "st"
  refine ⟨dm, x1, d1, rfl, lv1, tm, t1, ?_⟩
  cases e : needRow dm d1 with
  | some rf =>
    rw [refOr_some]
    exact wkX_of (q1 rf (by unfold partRef; rw [e]))
  | none =>
    rw [refOr_none]
    refine ⟨dm, x2, d2, rfl, lv2, tm, t2, ?_⟩
    cases e2 : needRow dm d2 with
    | some rf =>
      rw [refOr_some]
      exact wkX_of (q1 rf (by unfold partRef; rw [e]; exact e2))
    | none =>
      rw [refOr_none]
      obtain ⟨m, r, s, k, rfl, hr, lr, rfl, hs, ls', rfl⟩ := partRef_none (dm := dm) (d1 := d1) (d2 := d2) (by unfold partRef; rw [e]; exact e2)
      have hpl := k.p2
      refine ⟨m, r, two_seen (ls lv1), k, hr, ?_⟩
      walk_at "st"
      refine ⟨m, s, two_seen (ls lv2), k, hs, ?_⟩
      walk_at "st"
      exact ⟨m, _, _, rfl, k, fun e he => by rw [(beh_ok k hr e he).1]; omega, fun e he => by rw [(beh_ok k hs e he).1]; omega, wk_of (q2 m r s k rfl hr lr rfl hs ls' rfl)⟩
/-! ### told or refused, in words -/
def toldW : Option Rf → D
  | none => .frz [.str "told"]
  | some r => .frz (wordsOf r)
theorem Th_told {o : Option Rf} (k : ∀ rf, o = some rf → Rfs rf) : Th 1 (toldW o) := by
  cases o with
  | none => exact Th_one (n := 0) (Th_str (by decide +kernel) (by decide +kernel))
  | some rf => exact Th_words (n := 0) (k rf rfl)
theorem ints_dd {h : DH} : ∀ l : List Int, DdL h (l.map D.int) (l.map PyData.int)
  | [] => .nil
  | i :: l => .cons (.int i) (ints_dd l)
theorem ints_shaped {l : List Int} : SeqAt.shaped (.list (l.map PyData.int)) = true := by
  have c : PyData.canLayAll0 (l.map PyData.int) = true := canLayAll_of fun p hp => by
    obtain ⟨b, _, rfl⟩ := List.mem_map.mp hp
    simp [PyData.canLay0]
  have d : PyData.depthAll (l.map PyData.int) ≤ 1 := depthAll_of fun p hp => by
    obtain ⟨b, _, rfl⟩ := List.mem_map.mp hp
    simp [PyData.depth]
  have c2 : (PyData.list (l.map PyData.int)).canLay0 = true := by simp only [PyData.canLay0]; exact c
  have d2 : (PyData.list (l.map PyData.int)).depth ≤ 64 := by simp only [PyData.depth]; omega
  unfold SeqAt.shaped
  rw [c2, decide_eq_true d2]
  rfl
theorem in_some {neg : Bool} {h : DH} {n : Int} {Q : DK} (l : List Int) (q : ∀ b, Q (.bl b) h) : rInD' neg (.int n) (.tup (l.map .int)) h Q :=
  in_data (.int n) rfl (ints_dd l) ints_shaped (q _)
theorem T_tup {ds : List D} (h : ∀ x ∈ ds, Th 50 x) (hl : ds.length ≤ 1000) : T (.tup ds) := (Th.tup (n := 50) (by omega) h).mono (by decide)
theorem T_frz {ds : List D} (h : ∀ x ∈ ds, Th 50 x) (hl : ds.length ≤ 1000) : T (.frz ds) := (Th.frz (n := 50) (by omega) h).mono (by decide)
theorem Th_natsM {l : List Nat} {n : Nat} : ∀ x ∈ natsD l, Th n x := fun x hx => by
  obtain ⟨i, _, rfl⟩ := List.mem_map.mp hx
  exact .int
/-- what a law asks: the script's answer is True -/
def lawP : DSp := fun ds h Q _ => ∃ ns : List Int, ds = [.scr (ns.map .int)] ∧ ns.length ≤ 63 ∧ ∀ h', Q (.bl true) h'
theorem lawP_ok : ∀ ns : List Int, ns.length ≤ 63 → lawP [.scr (ns.map .int)] (fun _ => none) (fun d _ => d = .bl true) fun _ _ _ => False := fun ns hl => ⟨ns, rfl, hl, fun _ => rfl⟩
/-! ### law k08 -/
def p_law_k08 : DSp := lawP
/-! slots of law: 0 script, 1 pen, 2 turn, 3 many, 4 text, 5 number, 6 some, 7 due, 8 k, 9 one -/
def b_law_k08_6 (E : DXE) : DTS :=
    (dIf (dNot (dB (dCall p__law_same 2 E (dCons (dNewV (dLc (dItE (dVar 6)) (.name 9) [9] dYes (dCall p__law_refusal 1 X0 (dCons (dVar 9) dNil)))) (dCons (dVar 7) dNil))))) (dRet (dC (.bl false))) dNext)
def b_law_k08_5 (E : DXE) : DTS :=
    (dSeq (dAsg 7 (dNewV (dCatE (dVar 7) (dLst (dCons (dNewV (dLst (dCons (dC (.str "bound")) dNil))) (dCons (dNewV (dLst (dCons (dC (.str "many")) dNil))) (dCons (dNewV (dLst (dCons (dC (.str "place")) dNil))) (dCons (dNewV (dLst (dCons (dC (.str "deed")) dNil))) (dCons (dNewV (dLst (dCons (dC (.str "nothing")) dNil))) (dCons (dNewV (dLst (dCons (dC (.str "text")) dNil))) (dCons (dNewV (dLst (dCons (dC (.str "line")) dNil))) dNil)))))))))))
    (b_law_k08_6 E))
def b_law_k08_4 (E : DXE) : DTS :=
    (dSeq (dAsg 7 (dNewV (dLst (dCons (dNewV (dLst (dCons (dC (.str "row")) (dCons (dVar 5) dNil)))) (dCons (dNewV (dLst (dCons (dC (.str "rule")) (dCons (dVar 5) dNil)))) (dCons (dNewV (dLst (dCons (dC (.str "step")) (dCons (dVar 5) dNil)))) (dCons (dNewV (dLst (dCons (dC (.str "machine")) dNil))) (dCons (dNewV (dLst (dCons (dC (.str "long")) dNil))) (dCons (dNewV (dLst (dCons (dC (.str "word")) dNil))) (dCons (dNewV (dLst (dCons (dC (.str "work")) dNil))) dNil))))))))))
    (b_law_k08_5 E))
def b_law_k08_3 (E : DXE) : DTS :=
    (dSeq (dAsg 6 (dNewV (dCatE (dVar 6) (dLst (dCons (dExcT "NoText" (dVar 4)) (dCons (dExcT "NoLine" (dVar 4)) dNil))))))
    (b_law_k08_4 E))
def b_law_k08_2 (E : DXE) : DTS :=
    (dSeq (dAsg 6 (dNewV (dCatE (dVar 6) (dLst (dCons (dExcT "NoWork" (dVar 4)) (dCons (dExcT "NoBound" (dVar 4)) (dCons (dExcT "TooMany" (dVar 4)) (dCons (dExcT "NoPlace" (dVar 4)) (dCons (dExcT "NoDeed" (dVar 4)) (dCons (dExcT "Nothing" (dVar 4)) dNil))))))))))
    (b_law_k08_3 E))
def b_law_k08_1 (E : DXE) : DTS :=
    (dSeq (dAsg 3 (dBin rAddD (dC (.int 1)) (dCall p__law_take 2 E (dCons (dCall p__law_anew 1 E (dCons (dVar 1) dNil)) (dCons (dC (.int 5)) dNil)))))
    (dSeq (dAsg 4 (dJoin (dC (.str "")) (dLc (dRg1 (dCons (dVar 3) dNil)) (.name 8) [8] dYes (dCall p__law_any_sign 1 X0 (dCons (dVar 1) dNil)))))
    (dSeq (dAsg 5 (dBin rSubI (dCall p__law_take 2 E (dCons (dVar 1) (dCons (dBin rPowI (dC (.int 10)) (dC (.int 6))) dNil))) (dC (.int 9))))
    (dSeq (dAsg 6 (dNewV (dLst (dCons (dExcI "NoRow" "place" (dVar 5)) (dCons (dExcI "NoRule" "number" (dVar 5)) (dCons (dExcI "NoStep" "place" (dVar 5)) (dCons (dExcT "NoMachine" (dVar 4)) (dCons (dExcT "TooLong" (dVar 4)) (dCons (dExcT "NoWord" (dVar 4)) dNil)))))))))
    (b_law_k08_2 E)))))
def b_law_k08_7 (E : DXE) : DTS :=
    (dRet (dC (.bl true)))
def b_law_k08 (E : DXE) : DTS :=
    (dSeq (dAsg 1 (dCall p__law_open 1 E (dCons (dVar 0) dNil)))
    (dSeq (dFor (dRg1 (dCons (dC (.int 3)) dNil)) (.name 2) (b_law_k08_1 E))
    (b_law_k08_7 E)))
def L08 (i : Int) : List (Str × List (Str × Int) × List D) := [("NoRow", [("place", i)], [.str "row", .int i]), ("NoRule", [("number", i)], [.str "rule", .int i]), ("NoStep", [("place", i)], [.str "step", .int i]), ("NoMachine", [], [.str "machine"]), ("TooLong", [], [.str "long"]), ("NoWord", [], [.str "word"]), ("NoWork", [], [.str "work"]), ("NoBound", [], [.str "bound"]), ("TooMany", [], [.str "many"]), ("NoPlace", [], [.str "place"]), ("NoDeed", [], [.str "deed"]), ("Nothing", [], [.str "nothing"]), ("NoText", [], [.str "text"]), ("NoLine", [], [.str "line"])]
theorem L08_ok {i : Int} : ∀ x ∈ L08 i, Told x.1 x.2.1 x.2.2 := by
  intro x hx
  unfold L08 at hx
  repeat (first | (rcases List.mem_cons.mp hx with rfl | hx; exact (by first | exact Told.row _ | exact Told.rule _ | exact Told.step _ | exact Told.machine | exact Told.long | exact Told.word | exact Told.work | exact Told.bound | exact Told.many | exact Told.place | exact Told.deed | exact Told.nothing | exact Told.text | exact Told.line)) | (cases hx))
theorem join_q08 {l : List Nat} {P : List Str → Prop} (q : P (l.map fun c => (⟨#[c]⟩ : Str))) : optAt (allS? (l.map sgn)) P := by
  have e : allS? (l.map sgn) = some (l.map fun c => (⟨#[c]⟩ : Str)) := by
    clear q
    induction l with
    | nil => rfl
    | cons c l ih => rw [List.map_cons, List.map_cons]; show (allS? (l.map sgn)).map _ = _; rw [ih]; rfl
  rw [e]
  exact q
theorem lens08 {l : List Nat} : ((l.map fun c => (⟨#[c]⟩ : Str)).map (·.length)).sum = l.length := by
  induction l with
  | nil => rfl
  | cons c l ih => rw [List.map_cons, List.map_cons, List.sum_cons, ih, List.length_cons, show (⟨#[c]⟩ : Str).length = 1 from rfl]; omega
theorem k08_1 {E : DX} {Q : DK} {nx bk ct : DEnv → DH → Prop} {x0 x2 x3 x4 x5 x6 x7 x8 x9 : Option D} {p cc : Addr} {n : Nat} {h : DH} (hp : PenAt h p cc n) (hn : n + 100 ≤ BIG)
    (q : ∀ (x3 x4 x5 x6 x7 x8 x9 : Option D) h', PenAt h' p cc (n + 50) → nx [x0, some (.ref p), x2, x3, x4, x5, x6, x7, x8, x9] h') :
    b_law_k08_1 (fun _ => wkX E) ⟨nx, wk Q, bk, ct⟩ [x0, some (.ref p), x2, x3, x4, x5, x6, x7, x8, x9] h := by
  unfold b_law_k08_1
  walk_at "st"
  refine anew_call hp fun h1 p1 b1 => take_call (many := 5) p1 (by omega) (by omega) (by omega) fun k h2 hk p2 b2 => ?_
  have e1 : (1 : Int) + (k : Int) = ((1 + k : Nat) : Int) := by omega
  k_call_by "st" e1
  refine ⟨rg_ok (by omega), ?_⟩
  rw [Int.toNat_natCast]
  refine comp_draw (α := Nat) (enc := sgn) (P := fun c => c ∈ allS.cps.toList) (c := 1) p2 (by rw [intsD_len]; omega) (by rw [intsD_len]; exact hsz (by omega)) (fun x hx h7 mm K pm hm bm kk => ?_) fun ys h7 ly hy p7 b7 => ?_
  · walk_at "st"
    exact ⟨_, cc, pm, by omega, fun c h8 hc p8 b8 => kk c h8 hc p8 b8⟩
  rw [intsD_len] at ly p7
  refine join_q08 ?_
  refine ⟨by rw [lens08, show ("" : Str).length = 0 by decide +kernel]; omega, by unfold CPow; decide, ?_⟩
  refine take_call (many := 1000000) p7 (by omega) (by omega) (by omega) fun j h8 hj p8 b8 => ?_
  rw [asI_int]
  refine ⟨by decide, ?_⟩
  generalize (j : Int) - 9 = i
  unfold b_law_k08_2
  simp only [dSeq, dAsg, dLst, dCons, dNil, dC, dVar, dNewV, dCatE, dExcI, dExcT, asI_int, List.getElem?_cons_succ, List.getElem?_cons_zero, List.set_cons_succ, List.set_cons_zero, asLl_frz]
  refine ⟨hsz (show 6 ≤ 1000 by decide), hsz (show 12 ≤ 1000 by decide), ?_⟩
  unfold b_law_k08_3
  simp only [dSeq, dAsg, dLst, dCons, dNil, dC, dVar, dNewV, dCatE, dExcI, dExcT, asI_int, List.getElem?_cons_succ, List.getElem?_cons_zero, List.set_cons_succ, List.set_cons_zero, asLl_frz]
  refine ⟨hsz (show 2 ≤ 1000 by decide), hsz (show 14 ≤ 1000 by decide), ?_⟩
  have e1 : (([D.exc "NoRow" [("place", i)], .exc "NoRule" [("number", i)], .exc "NoStep" [("place", i)], .exc "NoMachine" [], .exc "TooLong" [], .exc "NoWord" []] ++ [D.exc "NoWork" [], .exc "NoBound" [], .exc "TooMany" [], .exc "NoPlace" [], .exc "NoDeed" [], .exc "Nothing" []]) ++ [D.exc "NoText" [], .exc "NoLine" []]) = (L08 i).map fun x => D.exc x.1 x.2.1 := rfl
  rw [e1]
  unfold b_law_k08_4
  simp only [dSeq, dAsg, dLst, dCons, dNil, dC, dVar, dNewV, dCatE, dExcI, dExcT, asI_int, List.getElem?_cons_succ, List.getElem?_cons_zero, List.set_cons_succ, List.set_cons_zero, asLl_frz]
  have s1 : 1 ≤ sizeLine := by decide
  have s2 : 2 ≤ sizeLine := by decide
  refine ⟨s2, s2, s2, s1, s1, s1, s1, hsz (show 7 ≤ 1000 by decide), ?_⟩
  unfold b_law_k08_5
  simp only [dSeq, dAsg, dLst, dCons, dNil, dC, dVar, dNewV, dCatE, dExcI, dExcT, asI_int, List.getElem?_cons_succ, List.getElem?_cons_zero, List.set_cons_succ, List.set_cons_zero, asLl_frz]
  refine ⟨s1, s1, s1, s1, s1, s1, s1, hsz (show 7 ≤ 1000 by decide), hsz (show 14 ≤ 1000 by decide), ?_⟩
  have e2 : ([D.frz [.str "row", .int i], .frz [.str "rule", .int i], .frz [.str "step", .int i], .frz [.str "machine"], .frz [.str "long"], .frz [.str "word"], .frz [.str "work"]] ++ [D.frz [.str "bound"], .frz [.str "many"], .frz [.str "place"], .frz [.str "deed"], .frz [.str "nothing"], .frz [.str "text"], .frz [.str "line"]]) = (L08 i).map fun x => D.frz x.2.2 := rfl
  rw [e2]
  unfold b_law_k08_6
  walk_at "st"
  refine comp_ends (enc := fun x : Str × List (Str × Int) × List D => D.exc x.1 x.2.1) (fun x => D.frz x.2.2) trivial (hsz (show 14 ≤ 1000 by decide)) (fun x hx K hK => ?_) ?_
  · walk_at "st"
    exact ⟨x.1, x.2.1, x.2.2, rfl, L08_ok x hx, hK⟩
  · have th : Th 2 (.frz ((L08 i).map fun x => D.frz x.2.2)) := .frz (show 14 ≤ 1001 by decide) fun y hy => by
      obtain ⟨x, hx, rfl⟩ := List.mem_map.mp hy
      exact Told.th (L08_ok x hx)
    refine same_call th (by decide) ?_
    walk_at "st"
    exact q _ _ _ _ _ _ _ _ (p8.mono (by omega))
theorem pure_law_k08 : ∀ ds h Q E, p_law_k08 ds h Q E → dFn 10 b_law_k08 ds h Q E := by
  rintro ds h Q E ⟨ns, rfl, hl, q⟩
  have hb : BIG = 4294967296 := rfl
  unfold b_law_k08
  walk_at "st"
  refine ⟨ns, rfl, hl, fun p cc h0 hp0 s0 np => ?_⟩
  walk_at "st"
  refine ⟨⟨by decide, by decide⟩, ?_⟩
  refine loop_inv (fun r env h' => ∃ (x2 x3 x4 x5 x6 x7 x8 x9 : Option D) (n : Nat), env = [some (.scr (ns.map .int)), some (.ref p), x2, x3, x4, x5, x6, x7, x8, x9] ∧ PenAt h' p cc n ∧ n + 50 * r.length ≤ 1000)
    (fun x r K hK env h' hI => ?_) (fun env h' hI => ?_) _ _ _ ⟨none, none, none, none, none, none, none, none, 0, rfl, hp0, by rw [intsD_len]; decide⟩
  · obtain ⟨x2, x3, x4, x5, x6, x7, x8, x9, n, rfl, pn, hn⟩ := hI
    simp only [List.length_cons] at hn
    refine ⟨trivial, ?_⟩
    walk_at "st"
    exact k08_1 pn (by omega) fun x3 x4 x5 x6 x7 x8 x9 h2 p2 => hK _ _ ⟨_, _, _, _, _, _, _, _, _, rfl, p2, by omega⟩
  · obtain ⟨x2, x3, x4, x5, x6, x7, x8, x9, n, rfl, pn, hn⟩ := hI
    refine ⟨trivial, ?_⟩
    unfold b_law_k08_7
    walk_at "st"
    exact wk_of (q _)
theorem law_k08 : ∀ ns : List Int, ns.length ≤ 63 → p_law_k08 [.scr (ns.map .int)] (fun _ => none) (fun d _ => d = .bl true) fun _ _ _ => False := lawP_ok
end DL
namespace DL.Lk08
open PySem PySem.Spec PyProof.Rows L2
def top (i : Nat) : Stmt := PySem.Challenge.pw_leastdeeds_k08_refusals_apart.main.body.getD i (.Pass ⟨0, 0, 0, 0⟩)
def inC : Stmt → Nat → Stmt
  | .ClassDef _ _ _ b _ _ _ _ _ _ _, j => b.getD j (.Pass ⟨0, 0, 0, 0⟩)
  | s, _ => s
theorem s_NoRow : FnScope ["self", "place"] ["self", "place"] (defScope (inC (top 2) 0)) := ⟨rfl, rfl, rfl, by decide +kernel, rfl, by decide +kernel, by decide +kernel⟩
theorem s_NoRule : FnScope ["self", "number"] ["self", "number"] (defScope (inC (top 3) 0)) := ⟨rfl, rfl, rfl, by decide +kernel, rfl, by decide +kernel, by decide +kernel⟩
theorem s_NoStep : FnScope ["self", "place"] ["self", "place"] (defScope (inC (top 4) 0)) := ⟨rfl, rfl, rfl, by decide +kernel, rfl, by decide +kernel, by decide +kernel⟩
theorem s__law_open : FnScope ["script", "cells", "k", "cell"] ["script"] (defScope (top 18)) := ⟨rfl, rfl, rfl, by decide +kernel, rfl, by decide +kernel, by decide +kernel⟩
theorem c__law_open : ∀ E, cSs ⟨["script", "cells", "k", "cell"], defScope (top 18), fun _ => true, [("list", .ty .list), ("enumerate", .bi .enumerate), ("cells", .told), ("return", .told)], ["DeedError", "NoRow", "NoRule", "NoStep", "NoMachine", "TooLong", "NoWord", "NoWork", "NoBound", "TooMany", "NoPlace", "NoDeed", "Nothing", "NoText", "NoLine"], true⟩ E 60 (defBody (top 18)) = some (b__law_open E) := fun E => by kernel_rfl
theorem s__law_spread : FnScope ["cell", "at", "primes", "one", "two", "three"] ["cell", "at"] (defScope (top 17)) := ⟨rfl, rfl, rfl, by decide +kernel, rfl, by decide +kernel, by decide +kernel⟩
theorem c__law_spread : ∀ E, cSs ⟨["cell", "at", "primes", "one", "two", "three"], defScope (top 17), fun _ => true, [], ["DeedError", "NoRow", "NoRule", "NoStep", "NoMachine", "TooLong", "NoWord", "NoWork", "NoBound", "TooMany", "NoPlace", "NoDeed", "Nothing", "NoText", "NoLine"], true⟩ E 60 (defBody (top 17)) = some (b__law_spread E) := fun E => by kernel_rfl
theorem s__law_take : FnScope ["pen", "many", "at", "cell", "found"] ["pen", "many"] (defScope (top 20)) := ⟨rfl, rfl, rfl, by decide +kernel, rfl, by decide +kernel, by decide +kernel⟩
theorem c__law_take : ∀ E, cSs ⟨["pen", "many", "at", "cell", "found"], defScope (top 20), fun _ => true, [("len", .bi .len), ("_law_spread", .fn 2 p__law_spread)], ["DeedError", "NoRow", "NoRule", "NoStep", "NoMachine", "TooLong", "NoWord", "NoWork", "NoBound", "TooMany", "NoPlace", "NoDeed", "Nothing", "NoText", "NoLine"], true⟩ E 60 (defBody (top 20)) = some (b__law_take E) := fun E => by kernel_rfl
theorem s__law_anew : FnScope ["pen"] ["pen"] (defScope (top 19)) := ⟨rfl, rfl, rfl, by decide +kernel, rfl, by decide +kernel, by decide +kernel⟩
theorem c__law_anew : ∀ E, cSs ⟨["pen"], defScope (top 19), fun _ => true, [], ["DeedError", "NoRow", "NoRule", "NoStep", "NoMachine", "TooLong", "NoWord", "NoWork", "NoBound", "TooMany", "NoPlace", "NoDeed", "Nothing", "NoText", "NoLine"], true⟩ E 60 (defBody (top 19)) = some (b__law_anew E) := fun E => by kernel_rfl
theorem s__law_sign_but : FnScope ["pen", "others", "all_signs", "some", "sign"] ["pen", "others"] (defScope (top 21)) := ⟨rfl, rfl, rfl, by decide +kernel, rfl, by decide +kernel, by decide +kernel⟩
theorem c__law_sign_but : ∀ E, cSs ⟨["pen", "others", "all_signs", "some", "sign"], defScope (top 21), fun _ => true, [("_law_take", .fn 2 p__law_take), ("len", .bi .len)], ["DeedError", "NoRow", "NoRule", "NoStep", "NoMachine", "TooLong", "NoWord", "NoWork", "NoBound", "TooMany", "NoPlace", "NoDeed", "Nothing", "NoText", "NoLine"], true⟩ E 60 (defBody (top 21)) = some (b__law_sign_but E) := fun E => by kernel_rfl
theorem s__law_any_sign : FnScope ["pen"] ["pen"] (defScope (top 22)) := ⟨rfl, rfl, rfl, by decide +kernel, rfl, by decide +kernel, by decide +kernel⟩
theorem c__law_any_sign : ∀ E, cSs ⟨["pen"], defScope (top 22), fun _ => true, [("_law_sign_but", .fn 2 p__law_sign_but)], ["DeedError", "NoRow", "NoRule", "NoStep", "NoMachine", "TooLong", "NoWord", "NoWork", "NoBound", "TooMany", "NoPlace", "NoDeed", "Nothing", "NoText", "NoLine"], true⟩ E 60 (defBody (top 22)) = some (b__law_any_sign E) := fun E => by kernel_rfl
theorem s__law_same : FnScope ["found", "due", "one", "other"] ["found", "due"] (defScope (top 23)) := ⟨rfl, rfl, rfl, by decide +kernel, rfl, by decide +kernel, by decide +kernel⟩
theorem c__law_same {rec : DSp} : ∀ E, cSs ⟨["found", "due", "one", "other"], defScope (top 23), fun _ => true, [("isinstance", .bi .isinstance), ("bool", .ty .bool), ("int", .ty .int), ("str", .ty .str), ("tuple", .ty .tuple), ("list", .ty .list), ("len", .bi .len), ("_law_same", .fn 2 rec), ("zip", .bi .zip)], ["DeedError", "NoRow", "NoRule", "NoStep", "NoMachine", "TooLong", "NoWord", "NoWork", "NoBound", "TooMany", "NoPlace", "NoDeed", "Nothing", "NoText", "NoLine"], true⟩ E 60 (defBody (top 23)) = some (b__law_same rec E) := fun E => by kernel_rfl
theorem s__law_refusal : FnScope ["caught", "some", "words"] ["caught"] (defScope (top 24)) := ⟨rfl, rfl, rfl, by decide +kernel, rfl, by decide +kernel, by decide +kernel⟩
theorem c__law_refusal : ∀ E, cSs ⟨["caught", "some", "words"], defScope (top 24), fun _ => true, [("isinstance", .bi .isinstance), ("NoRow", .xc (some (some "place"))), ("NoRule", .xc (some (some "number"))), ("NoStep", .xc (some (some "place"))), ("NoMachine", .xc (some none)), ("TooLong", .xc (some none)), ("NoWord", .xc (some none)), ("NoWork", .xc (some none)), ("NoBound", .xc (some none)), ("TooMany", .xc (some none)), ("NoPlace", .xc (some none)), ("NoDeed", .xc (some none)), ("Nothing", .xc (some none)), ("NoText", .xc (some none)), ("NoLine", .xc (some none)), ("DeedError", .xc (some none)), ("ValueError", .bex)], ["DeedError", "NoRow", "NoRule", "NoStep", "NoMachine", "TooLong", "NoWord", "NoWork", "NoBound", "TooMany", "NoPlace", "NoDeed", "Nothing", "NoText", "NoLine"], true⟩ E 60 (defBody (top 24)) = some (b__law_refusal E) := fun E => by kernel_rfl
theorem s_law_k08 : FnScope ["script", "pen", "turn", "many", "text", "number", "some", "due", "k", "one"] ["script"] (defScope (top 25)) := ⟨rfl, rfl, rfl, by decide +kernel, rfl, by decide +kernel, by decide +kernel⟩
theorem c_law_k08 : ∀ E, cSs ⟨["script", "pen", "turn", "many", "text", "number", "some", "due", "k", "one"], defScope (top 25), fun _ => true, [("_law_open", .fn 1 p__law_open), ("range", .bi .range), ("_law_take", .fn 2 p__law_take), ("_law_anew", .fn 1 p__law_anew), ("_law_any_sign", .fn 1 p__law_any_sign), ("NoRow", .xc (some (some "place"))), ("NoRule", .xc (some (some "number"))), ("NoStep", .xc (some (some "place"))), ("NoMachine", .xc (some none)), ("TooLong", .xc (some none)), ("NoWord", .xc (some none)), ("NoWork", .xc (some none)), ("NoBound", .xc (some none)), ("TooMany", .xc (some none)), ("NoPlace", .xc (some none)), ("NoDeed", .xc (some none)), ("Nothing", .xc (some none)), ("NoText", .xc (some none)), ("NoLine", .xc (some none)), ("_law_same", .fn 2 p__law_same), ("_law_refusal", .fn 1 p__law_refusal)], ["DeedError", "NoRow", "NoRule", "NoStep", "NoMachine", "TooLong", "NoWord", "NoWork", "NoBound", "TooMany", "NoPlace", "NoDeed", "Nothing", "NoText", "NoLine"], true⟩ E 60 (defBody (top 25)) = some (b_law_k08 E) := fun E => by kernel_rfl
def d__law_open : He.DefD := ⟨("_law_open", none), "_law_open", "_law_open", defArgs (top 18), defBody (top 18), defScope (top 18), [], []⟩
def d__law_spread : He.DefD := ⟨("_law_spread", none), "_law_spread", "_law_spread", defArgs (top 17), defBody (top 17), defScope (top 17), [], []⟩
def d__law_take : He.DefD := ⟨("_law_take", none), "_law_take", "_law_take", defArgs (top 20), defBody (top 20), defScope (top 20), [], []⟩
def d__law_anew : He.DefD := ⟨("_law_anew", none), "_law_anew", "_law_anew", defArgs (top 19), defBody (top 19), defScope (top 19), [], []⟩
def d__law_sign_but : He.DefD := ⟨("_law_sign_but", none), "_law_sign_but", "_law_sign_but", defArgs (top 21), defBody (top 21), defScope (top 21), [], []⟩
def d__law_any_sign : He.DefD := ⟨("_law_any_sign", none), "_law_any_sign", "_law_any_sign", defArgs (top 22), defBody (top 22), defScope (top 22), [], []⟩
def d__law_same : He.DefD := ⟨("_law_same", none), "_law_same", "_law_same", defArgs (top 23), defBody (top 23), defScope (top 23), [], []⟩
def d__law_refusal : He.DefD := ⟨("_law_refusal", none), "_law_refusal", "_law_refusal", defArgs (top 24), defBody (top 24), defScope (top 24), [], []⟩
def d_law_k08 : He.DefD := ⟨("law", none), "law", "law", defArgs (top 25), defBody (top 25), defScope (top 25), [], []⟩
def d_NoRow : He.DefD := ⟨("NoRow", some "__init__"), "__init__", "NoRow.__init__", defArgs (inC (top 2) 0), defBody (inC (top 2) 0), defScope (inC (top 2) 0), [], []⟩
def d_NoRule : He.DefD := ⟨("NoRule", some "__init__"), "__init__", "NoRule.__init__", defArgs (inC (top 3) 0), defBody (inC (top 3) 0), defScope (inC (top 3) 0), [], []⟩
def d_NoStep : He.DefD := ⟨("NoStep", some "__init__"), "__init__", "NoStep.__init__", defArgs (inC (top 4) 0), defBody (inC (top 4) 0), defScope (inC (top 4) 0), [], []⟩
def fn : List He.DefD := [d__law_open, d__law_spread, d__law_take, d__law_anew, d__law_sign_but, d__law_any_sign, d__law_same, d__law_refusal, d_law_k08, d_NoRow, d_NoRule, d_NoStep]
def ex (K : PySem.W.Frag) : Bool := (clsB K ["DeedError", "NoRow", "NoRule", "NoStep", "NoMachine", "TooLong", "NoWord", "NoWork", "NoBound", "TooMany", "NoPlace", "NoDeed", "Nothing", "NoText", "NoLine"] && (basB K "DeedError" && (oexB K "NoRow" "place" && oexB K "NoRule" "number" && oexB K "NoStep" "place")))
def fa : List He.Fa := [.glo "_law_open", .glo "_law_spread", .glo "_law_take", .glo "_law_anew", .glo "_law_sign_but", .glo "_law_any_sign", .glo "_law_same", .glo "_law_refusal", .glo "law", .free "list", .free "enumerate", .free "len", .free "isinstance", .free "bool", .free "int", .free "str", .free "tuple", .free "zip", .glo "NoRow", .glo "NoRule", .glo "NoStep", .glo "NoMachine", .exc "NoMachine", .glo "TooLong", .exc "TooLong", .glo "NoWord", .exc "NoWord", .glo "NoWork", .exc "NoWork", .glo "NoBound", .exc "NoBound", .glo "TooMany", .exc "TooMany", .glo "NoPlace", .exc "NoPlace", .glo "NoDeed", .exc "NoDeed", .glo "Nothing", .exc "Nothing", .glo "NoText", .exc "NoText", .glo "NoLine", .exc "NoLine", .glo "DeedError", .exc "DeedError", .free "ValueError", .free "range"]
abbrev R : PySem.W.OpenRow := PySem.W.OpenLaw.row PySem.Challenge.rw_leastdeeds_k08_refusals_apart
abbrev hk : PySem.W.Hook := hookX 5 fa fn ex
def ob (s : PySem.W.SharedT) : AlX := obsXG 5 fa fn ex (HandSHeadRun.getT s)
theorem ob_eq (s : PySem.W.SharedT) : ob s = hk.obs s.abs := obsXG_eq (HandSHeadRun.getT_eq s)
def nm0 : List PySem.Str := ["DeedError", "NoRow", "NoRule", "NoStep", "NoMachine", "TooLong", "NoWord", "NoWork", "NoBound", "TooMany", "NoPlace", "NoDeed", "Nothing", "NoText", "NoLine", "_law_spread", "_law_open", "_law_anew", "_law_take", "_law_sign_but", "_law_any_sign", "_law_same", "_law_refusal"]
def loose : List PySem.Str := nm0
theorem run (w : World) : HandSHeadRun.RunEq R (PySem.W.view R.prog [25]) hk ob 9000 loose w := by
  intro os
  kernel_rfl
theorem facts {P : Program} {w : World} {K : PySem.W.Frag} {h : Heap} {mg : Str → Option Value} {f : Addr} (X : K.In h) (G : h.Ns mainGlobals mg) (hfa : mg ("law" : Str) = some (.ref f)) (c : He.SaysD fa fn K) (x : ex K = true) :
    ∃ fd : FuncData, (∀ (s : Shared) (v : Value), BindsTo s fd ⟨[v], []⟩ [("script", v)]) ∧ ∀ base : Heap, K.In base → base.Ns mainGlobals mg → FnOk P w K mg base (L2.CX P w) 13 f fd ["script"] (lSp K mg 1 p_law_k08) := by
  obtain ⟨xc, xb, xo⟩ : clsB K ["DeedError", "NoRow", "NoRule", "NoStep", "NoMachine", "TooLong", "NoWord", "NoWork", "NoBound", "TooMany", "NoPlace", "NoDeed", "Nothing", "NoText", "NoLine"] = true ∧ basB K "DeedError" = true ∧ (oexB K "NoRow" "place" && oexB K "NoRule" "number" && oexB K "NoStep" "place") = true := by
    have z := x
    unfold ex at z
    exact ⟨(He.ba z).1, (He.ba (He.ba z).2).1, (He.ba (He.ba z).2).2⟩
  have XC := clsB_ok xc
  obtain ⟨fd__law_open, F__law_open⟩ := c.def_ 0 (d := d__law_open) rfl
  have G__law_open := He.glo_ok X G (c.fact 0 (f := .glo "_law_open") rfl)
  have B__law_open := FunD.bindsN (ps := ["script"]) F__law_open fun _ _ _ _ _ _ us hl => match us, hl with | [_], _ => rfl
  obtain ⟨fd__law_spread, F__law_spread⟩ := c.def_ 1 (d := d__law_spread) rfl
  have G__law_spread := He.glo_ok X G (c.fact 1 (f := .glo "_law_spread") rfl)
  have B__law_spread := FunD.bindsN (ps := ["cell", "at"]) F__law_spread fun _ _ _ _ _ _ us hl => match us, hl with | [_, _], _ => rfl
  obtain ⟨fd__law_take, F__law_take⟩ := c.def_ 2 (d := d__law_take) rfl
  have G__law_take := He.glo_ok X G (c.fact 2 (f := .glo "_law_take") rfl)
  have B__law_take := FunD.bindsN (ps := ["pen", "many"]) F__law_take fun _ _ _ _ _ _ us hl => match us, hl with | [_, _], _ => rfl
  obtain ⟨fd__law_anew, F__law_anew⟩ := c.def_ 3 (d := d__law_anew) rfl
  have G__law_anew := He.glo_ok X G (c.fact 3 (f := .glo "_law_anew") rfl)
  have B__law_anew := FunD.bindsN (ps := ["pen"]) F__law_anew fun _ _ _ _ _ _ us hl => match us, hl with | [_], _ => rfl
  obtain ⟨fd__law_sign_but, F__law_sign_but⟩ := c.def_ 4 (d := d__law_sign_but) rfl
  have G__law_sign_but := He.glo_ok X G (c.fact 4 (f := .glo "_law_sign_but") rfl)
  have B__law_sign_but := FunD.bindsN (ps := ["pen", "others"]) F__law_sign_but fun _ _ _ _ _ _ us hl => match us, hl with | [_, _], _ => rfl
  obtain ⟨fd__law_any_sign, F__law_any_sign⟩ := c.def_ 5 (d := d__law_any_sign) rfl
  have G__law_any_sign := He.glo_ok X G (c.fact 5 (f := .glo "_law_any_sign") rfl)
  have B__law_any_sign := FunD.bindsN (ps := ["pen"]) F__law_any_sign fun _ _ _ _ _ _ us hl => match us, hl with | [_], _ => rfl
  obtain ⟨fd__law_same, F__law_same⟩ := c.def_ 6 (d := d__law_same) rfl
  have G__law_same := He.glo_ok X G (c.fact 6 (f := .glo "_law_same") rfl)
  have B__law_same := FunD.bindsN (ps := ["found", "due"]) F__law_same fun _ _ _ _ _ _ us hl => match us, hl with | [_, _], _ => rfl
  obtain ⟨fd__law_refusal, F__law_refusal⟩ := c.def_ 7 (d := d__law_refusal) rfl
  have G__law_refusal := He.glo_ok X G (c.fact 7 (f := .glo "_law_refusal") rfl)
  have B__law_refusal := FunD.bindsN (ps := ["caught"]) F__law_refusal fun _ _ _ _ _ _ us hl => match us, hl with | [_], _ => rfl
  obtain ⟨fd_law_k08, F_law_k08⟩ := c.def_ 8 (d := d_law_k08) rfl
  have G_law_k08 := He.glo_ok X G (c.fact 8 (f := .glo "law") rfl)
  have e := hfa.symm.trans G_law_k08
  cases e
  have b := FunD.bindsA (ps := ["script"]) F_law_k08 fun _ _ _ _ _ _ us hl => match us, hl with | [_], _ => rfl
  refine ⟨fd_law_k08, fun s v => b s [v] rfl, fun base hK hN => ?_⟩
  have x_NoStep : oexB K "NoStep" "place" = true := (He.ba xo).2
  have x_NoRule : oexB K "NoRule" "number" = true := (He.ba (He.ba xo).1).2
  have x_NoRow : oexB K "NoRow" "place" = true := (He.ba (He.ba xo).1).1
  have G_DeedError := He.glo_ok X G (c.fact 43 (f := .glo "DeedError") rfl)
  obtain ⟨fd_NoRow, F_NoRow⟩ := c.def_ 9 (d := d_NoRow) rfl
  have B_NoRow := FunD.bindsN (ps := ["self", "place"]) F_NoRow fun _ _ _ _ _ _ us hl => match us, hl with | [_, _], _ => rfl
  have O_NoRow := own_init (P := P) (w := w) (mg := mg) (base := base) (qual := "NoRow.__init__") (st := (inC (top 2) 0)) x_NoRow xb G_DeedError (FunD.fun_ F_NoRow) s_NoRow (by kernel_rfl) rfl rfl rfl (by decide) (by decide) B_NoRow
  obtain ⟨fd_NoRule, F_NoRule⟩ := c.def_ 10 (d := d_NoRule) rfl
  have B_NoRule := FunD.bindsN (ps := ["self", "number"]) F_NoRule fun _ _ _ _ _ _ us hl => match us, hl with | [_, _], _ => rfl
  have O_NoRule := own_init (P := P) (w := w) (mg := mg) (base := base) (qual := "NoRule.__init__") (st := (inC (top 3) 0)) x_NoRule xb G_DeedError (FunD.fun_ F_NoRule) s_NoRule (by kernel_rfl) rfl rfl rfl (by decide) (by decide) B_NoRule
  obtain ⟨fd_NoStep, F_NoStep⟩ := c.def_ 11 (d := d_NoStep) rfl
  have B_NoStep := FunD.bindsN (ps := ["self", "place"]) F_NoStep fun _ _ _ _ _ _ us hl => match us, hl with | [_, _], _ => rfl
  have O_NoStep := own_init (P := P) (w := w) (mg := mg) (base := base) (qual := "NoStep.__init__") (st := (inC (top 4) 0)) x_NoStep xb G_DeedError (FunD.fun_ F_NoStep) s_NoStep (by kernel_rfl) rfl rfl rfl (by decide) (by decide) B_NoStep
  have ok__law_open : FnOk P w K mg base (L2.CX P w) 1 _ fd__law_open ["script"] (lSp K mg 1 p__law_open) := fn_c (FunD.fun_ F__law_open) s__law_open (tab_cons (gs_ty (b := .list) rfl (He.free_ok X G (c.fact 9 (f := .free "list") rfl))) (tab_cons (gs_bi (b := .enumerate) rfl (He.free_ok X G (c.fact 10 (f := .free "enumerate") rfl))) (tab_cons gs_told (tab_cons gs_told tab_nil)))) XC c__law_open pure__law_open
  have ok__law_spread : FnOk P w K mg base (L2.CX P w) 1 _ fd__law_spread ["cell", "at"] (lSp K mg 2 p__law_spread) := fn_c (FunD.fun_ F__law_spread) s__law_spread tab_nil XC c__law_spread pure__law_spread
  have ok__law_take : FnOk P w K mg base (L2.CX P w) 2 _ fd__law_take ["pen", "many"] (lSp K mg 2 p__law_take) := fn_c (FunD.fun_ F__law_take) s__law_take (tab_cons (gs_bi (b := .len) rfl (He.free_ok X G (c.fact 11 (f := .free "len") rfl))) (tab_cons (gs_fn (by decide) G__law_spread F__law_spread.kp B__law_spread ok__law_spread) tab_nil)) XC c__law_take pure__law_take
  have ok__law_anew : FnOk P w K mg base (L2.CX P w) 1 _ fd__law_anew ["pen"] (lSp K mg 1 p__law_anew) := fn_c (FunD.fun_ F__law_anew) s__law_anew tab_nil XC c__law_anew pure__law_anew
  have ok__law_sign_but : FnOk P w K mg base (L2.CX P w) 3 _ fd__law_sign_but ["pen", "others"] (lSp K mg 2 p__law_sign_but) := fn_c (FunD.fun_ F__law_sign_but) s__law_sign_but (tab_cons (gs_fn (by decide) G__law_take F__law_take.kp B__law_take ok__law_take) (tab_cons (gs_bi (b := .len) rfl (He.free_ok X G (c.fact 11 (f := .free "len") rfl))) tab_nil)) XC c__law_sign_but pure__law_sign_but
  have ok__law_any_sign : FnOk P w K mg base (L2.CX P w) 4 _ fd__law_any_sign ["pen"] (lSp K mg 1 p__law_any_sign) := fn_c (FunD.fun_ F__law_any_sign) s__law_any_sign (tab_cons (gs_fn (by decide) G__law_sign_but F__law_sign_but.kp B__law_sign_but ok__law_sign_but) tab_nil) XC c__law_any_sign pure__law_any_sign
  have ok__law_same : FnOk P w K mg base (L2.CX P w) 12 _ fd__law_same ["found", "due"] (lSp K mg 2 p__law_same) := rec_ok (d := 12) (q := q__law_same) (fun h => ⟨fun _ _ _ _ z => (by obtain ⟨_, _, _, _, _, _, _, z, _⟩ := z; exact (z0__law_same z).elim), fun _ _ _ _ _ _ _ _ _ _ _ _ _ z => (by obtain ⟨_, _, _, _, _, _, _, z, _⟩ := z; exact (z0__law_same z).elim)⟩) fun j ih => fn_c (k := 0 + j) (FunD.fun_ F__law_same) s__law_same (tab_cons (gs_bi (b := .isinstance) rfl (He.free_ok X G (c.fact 12 (f := .free "isinstance") rfl))) (tab_cons (gs_ty (b := .bool) rfl (He.free_ok X G (c.fact 13 (f := .free "bool") rfl))) (tab_cons (gs_ty (b := .int) rfl (He.free_ok X G (c.fact 14 (f := .free "int") rfl))) (tab_cons (gs_ty (b := .str) rfl (He.free_ok X G (c.fact 15 (f := .free "str") rfl))) (tab_cons (gs_ty (b := .tuple) rfl (He.free_ok X G (c.fact 16 (f := .free "tuple") rfl))) (tab_cons (gs_ty (b := .list) rfl (He.free_ok X G (c.fact 9 (f := .free "list") rfl))) (tab_cons (gs_bi (b := .len) rfl (He.free_ok X G (c.fact 11 (f := .free "len") rfl))) (tab_cons (gs_fn (Nat.le_refl _) G__law_same F__law_same.kp B__law_same ih) (tab_cons (gs_bi (b := .zip) rfl (He.free_ok X G (c.fact 17 (f := .free "zip") rfl))) tab_nil))))))))) XC c__law_same (pure__law_same j)
  have ok__law_refusal : FnOk P w K mg base (L2.CX P w) 3 _ fd__law_refusal ["caught"] (lSp K mg 1 p__law_refusal) := fn_c (FunD.fun_ F__law_refusal) s__law_refusal (tab_cons (gs_bi (b := .isinstance) rfl (He.free_ok X G (c.fact 12 (f := .free "isinstance") rfl))) (tab_cons (gs_xi (He.glo_ok X G (c.fact 18 (f := .glo "NoRow") rfl)) (He.eqO_ok (c.fact 18 (f := .glo "NoRow") rfl)) (by decide) O_NoRow) (tab_cons (gs_xi (He.glo_ok X G (c.fact 19 (f := .glo "NoRule") rfl)) (He.eqO_ok (c.fact 19 (f := .glo "NoRule") rfl)) (by decide) O_NoRule) (tab_cons (gs_xi (He.glo_ok X G (c.fact 20 (f := .glo "NoStep") rfl)) (He.eqO_ok (c.fact 20 (f := .glo "NoStep") rfl)) (by decide) O_NoStep) (tab_cons (gs_xt (He.glo_ok X G (c.fact 21 (f := .glo "NoMachine") rfl)) (He.eqO_ok (c.fact 21 (f := .glo "NoMachine") rfl)) (c.fact 22 (f := .exc "NoMachine") rfl)) (tab_cons (gs_xt (He.glo_ok X G (c.fact 23 (f := .glo "TooLong") rfl)) (He.eqO_ok (c.fact 23 (f := .glo "TooLong") rfl)) (c.fact 24 (f := .exc "TooLong") rfl)) (tab_cons (gs_xt (He.glo_ok X G (c.fact 25 (f := .glo "NoWord") rfl)) (He.eqO_ok (c.fact 25 (f := .glo "NoWord") rfl)) (c.fact 26 (f := .exc "NoWord") rfl)) (tab_cons (gs_xt (He.glo_ok X G (c.fact 27 (f := .glo "NoWork") rfl)) (He.eqO_ok (c.fact 27 (f := .glo "NoWork") rfl)) (c.fact 28 (f := .exc "NoWork") rfl)) (tab_cons (gs_xt (He.glo_ok X G (c.fact 29 (f := .glo "NoBound") rfl)) (He.eqO_ok (c.fact 29 (f := .glo "NoBound") rfl)) (c.fact 30 (f := .exc "NoBound") rfl)) (tab_cons (gs_xt (He.glo_ok X G (c.fact 31 (f := .glo "TooMany") rfl)) (He.eqO_ok (c.fact 31 (f := .glo "TooMany") rfl)) (c.fact 32 (f := .exc "TooMany") rfl)) (tab_cons (gs_xt (He.glo_ok X G (c.fact 33 (f := .glo "NoPlace") rfl)) (He.eqO_ok (c.fact 33 (f := .glo "NoPlace") rfl)) (c.fact 34 (f := .exc "NoPlace") rfl)) (tab_cons (gs_xt (He.glo_ok X G (c.fact 35 (f := .glo "NoDeed") rfl)) (He.eqO_ok (c.fact 35 (f := .glo "NoDeed") rfl)) (c.fact 36 (f := .exc "NoDeed") rfl)) (tab_cons (gs_xt (He.glo_ok X G (c.fact 37 (f := .glo "Nothing") rfl)) (He.eqO_ok (c.fact 37 (f := .glo "Nothing") rfl)) (c.fact 38 (f := .exc "Nothing") rfl)) (tab_cons (gs_xt (He.glo_ok X G (c.fact 39 (f := .glo "NoText") rfl)) (He.eqO_ok (c.fact 39 (f := .glo "NoText") rfl)) (c.fact 40 (f := .exc "NoText") rfl)) (tab_cons (gs_xt (He.glo_ok X G (c.fact 41 (f := .glo "NoLine") rfl)) (He.eqO_ok (c.fact 41 (f := .glo "NoLine") rfl)) (c.fact 42 (f := .exc "NoLine") rfl)) (tab_cons (gs_xt (He.glo_ok X G (c.fact 43 (f := .glo "DeedError") rfl)) (He.eqO_ok (c.fact 43 (f := .glo "DeedError") rfl)) (c.fact 44 (f := .exc "DeedError") rfl)) (tab_cons (gs_bex (He.free_ok X G (c.fact 45 (f := .free "ValueError") rfl))) tab_nil))))))))))))))))) XC c__law_refusal pure__law_refusal
  have ok_law_k08 : FnOk P w K mg base (L2.CX P w) 13 _ fd_law_k08 ["script"] (lSp K mg 1 p_law_k08) := fn_c (FunD.fun_ F_law_k08) s_law_k08 (tab_cons (gs_fn (by decide) G__law_open F__law_open.kp B__law_open ok__law_open) (tab_cons (gs_bi (b := .range) rfl (He.free_ok X G (c.fact 46 (f := .free "range") rfl))) (tab_cons (gs_fn (by decide) G__law_take F__law_take.kp B__law_take ok__law_take) (tab_cons (gs_fn (by decide) G__law_anew F__law_anew.kp B__law_anew ok__law_anew) (tab_cons (gs_fn (by decide) G__law_any_sign F__law_any_sign.kp B__law_any_sign ok__law_any_sign) (tab_cons (gs_xi (He.glo_ok X G (c.fact 18 (f := .glo "NoRow") rfl)) (He.eqO_ok (c.fact 18 (f := .glo "NoRow") rfl)) (by decide) O_NoRow) (tab_cons (gs_xi (He.glo_ok X G (c.fact 19 (f := .glo "NoRule") rfl)) (He.eqO_ok (c.fact 19 (f := .glo "NoRule") rfl)) (by decide) O_NoRule) (tab_cons (gs_xi (He.glo_ok X G (c.fact 20 (f := .glo "NoStep") rfl)) (He.eqO_ok (c.fact 20 (f := .glo "NoStep") rfl)) (by decide) O_NoStep) (tab_cons (gs_xt (He.glo_ok X G (c.fact 21 (f := .glo "NoMachine") rfl)) (He.eqO_ok (c.fact 21 (f := .glo "NoMachine") rfl)) (c.fact 22 (f := .exc "NoMachine") rfl)) (tab_cons (gs_xt (He.glo_ok X G (c.fact 23 (f := .glo "TooLong") rfl)) (He.eqO_ok (c.fact 23 (f := .glo "TooLong") rfl)) (c.fact 24 (f := .exc "TooLong") rfl)) (tab_cons (gs_xt (He.glo_ok X G (c.fact 25 (f := .glo "NoWord") rfl)) (He.eqO_ok (c.fact 25 (f := .glo "NoWord") rfl)) (c.fact 26 (f := .exc "NoWord") rfl)) (tab_cons (gs_xt (He.glo_ok X G (c.fact 27 (f := .glo "NoWork") rfl)) (He.eqO_ok (c.fact 27 (f := .glo "NoWork") rfl)) (c.fact 28 (f := .exc "NoWork") rfl)) (tab_cons (gs_xt (He.glo_ok X G (c.fact 29 (f := .glo "NoBound") rfl)) (He.eqO_ok (c.fact 29 (f := .glo "NoBound") rfl)) (c.fact 30 (f := .exc "NoBound") rfl)) (tab_cons (gs_xt (He.glo_ok X G (c.fact 31 (f := .glo "TooMany") rfl)) (He.eqO_ok (c.fact 31 (f := .glo "TooMany") rfl)) (c.fact 32 (f := .exc "TooMany") rfl)) (tab_cons (gs_xt (He.glo_ok X G (c.fact 33 (f := .glo "NoPlace") rfl)) (He.eqO_ok (c.fact 33 (f := .glo "NoPlace") rfl)) (c.fact 34 (f := .exc "NoPlace") rfl)) (tab_cons (gs_xt (He.glo_ok X G (c.fact 35 (f := .glo "NoDeed") rfl)) (He.eqO_ok (c.fact 35 (f := .glo "NoDeed") rfl)) (c.fact 36 (f := .exc "NoDeed") rfl)) (tab_cons (gs_xt (He.glo_ok X G (c.fact 37 (f := .glo "Nothing") rfl)) (He.eqO_ok (c.fact 37 (f := .glo "Nothing") rfl)) (c.fact 38 (f := .exc "Nothing") rfl)) (tab_cons (gs_xt (He.glo_ok X G (c.fact 39 (f := .glo "NoText") rfl)) (He.eqO_ok (c.fact 39 (f := .glo "NoText") rfl)) (c.fact 40 (f := .exc "NoText") rfl)) (tab_cons (gs_xt (He.glo_ok X G (c.fact 41 (f := .glo "NoLine") rfl)) (He.eqO_ok (c.fact 41 (f := .glo "NoLine") rfl)) (c.fact 42 (f := .exc "NoLine") rfl)) (tab_cons (gs_fn (by decide) G__law_same F__law_same.kp B__law_same ok__law_same) (tab_cons (gs_fn (by decide) G__law_refusal F__law_refusal.kp B__law_refusal ok__law_refusal) tab_nil))))))))))))))))))))) XC c_law_k08 pure_law_k08
  exact ok_law_k08
end DL.Lk08
open PySem PySem.W PySem.Calls PyProof.Rows
theorem PySem.Challenge.cw_leastdeeds_k08_refusals_apart_holds : PySem.Challenge.rw_leastdeeds_k08_refusals_apart.Holds := by
  w_on; o_law
  refine HandSHeadRun.head_any (r := OpenLaw.row PySem.Challenge.rw_leastdeeds_k08_refusals_apart) (q := view (OpenLaw.row PySem.Challenge.rw_leastdeeds_k08_refusals_apart).prog [25]) (H := DL.Lk08.hk) (ob := DL.Lk08.ob) (M := 9000) (loose := DL.Lk08.loose) (d := HandSHeadRun.topDef (OpenLaw.row PySem.Challenge.rw_leastdeeds_k08_refusals_apart).prog 25) (kwd := []) DL.Lk08.ob_eq
    (by kernel_rfl) (fun s => by kernel_rfl) DL.Lk08.run (by kernel_rfl) (by kernel_rfl) (by kernel_rfl) (by rfl) (by first | assumption | decide +kernel) (by decide +kernel) ⟨rfl, rfl, rfl, rfl, rfl, by decide +kernel⟩ ?hw ?hc
  case hw => w_witness2
  case hc =>
    refine DL.walk_ofW (l := PySem.Challenge.rw_leastdeeds_k08_refusals_apart) (n := 63) (k := 13) (x := "script") (SP := DL.p_law_k08) rfl (by decide) (by kernel_rfl) ⟨rfl, by decide, by decide⟩ ?F DL.law_k08
    intro w mg fa h Y G hmg0
    obtain ⟨K, KX, c, x⟩ := Y
    have hmg : mg ("law" : PySem.Str) = some (.ref fa) := by
      have e : (HandSHeadRun.topDef (OpenLaw.row PySem.Challenge.rw_leastdeeds_k08_refusals_apart).prog 25).name = ("law" : PySem.Str) := by kernel_rfl
      rw [← e]
      exact hmg0
    obtain ⟨fd, hb, hF⟩ := DL.Lk08.facts (P := (PySem.Challenge.rw_leastdeeds_k08_refusals_apart).prog) (w := w) KX G hmg c x
    exact ⟨K, fd, KX, hb, hF⟩
