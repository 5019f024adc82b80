import PyProof.Rows.All
import Wide.All
import OpenK.AllK
import Wide.FinOn
import HandS.ForMost
import HandS.ForExc
import HandS.Strs
import HandS.SortInts
import HandS.Deep
import HandS.Wide
import HandS.IsInst
import KE.DatumOrd
import HandS.TupAny
import HandS.SetFor
import KE.KTupSum
import HandS.Zip
import HandS.Conv
import HandS.Style
import HandS.TryOnly
import HandS.TryMany
import HandS.ExcOwn
import HandS.ExcIs
import HandS.Dict
import KE.KDictDisplayH
import HandS.TupSets
import HandS.CallLocal
import HandS.Iter
import PyProof.Rows.SortShellAny
import KE.GoesMore
import HandS.Flow
import HandS.More
import KE.KEqDict
import HandS.FStr
import KE.GoesRaise
import PySem.Challenge.RW_argosy_k10_facts_read_or_refused
set_option Elab.async false
set_option linter.all false
set_option maxRecDepth 100000
set_option maxHeartbeats 4000000
/-! ArA: data trees D, owned trees T, what represents them on the abstract heap; the state of a def. -/
namespace Ar
open PySem PySem.Spec PyProof.Rows L2

inductive D where
  | non | bl (b : Bool) | int (i : Int) | str (s : Str)
  | lst (l : List D) | tup (l : List D) | dk (l : List (Key × D)) | dt (l : List (List Key × D))
  | st (l : List Int) | scr (l : List Int) | fn (x : Str) | ob (c : Str) (fs : List (Str × D))
  deriving Inhabited

inductive T where
  | z (d : D) | l (ts : List T) | dk (kvs : List (Key × T)) | dt (kvs : List (List Key × D)) | ob (c : Str) (fs : List (Str × T)) | tp (ts : List T) | gone
  deriving Inhabited

structure Gx where
  K : PySem.W.Frag
  mg : Str → Option Value
  P : Program
  w : World
abbrev gx (X : Cx) : Gx := ⟨X.K, X.mg, X.prog, X.w⟩

/-! ### partial heaps -/
def Dj (A B : Hp) : Prop := ∀ a, A a = none ∨ B a = none
def jn (A B : Hp) : Hp := fun a => match A a with | some o => some o | none => B a
def em : Hp := fun _ => none
theorem Same.empty {H : Hp} : Same em H := fun _ _ h => by cases h
theorem Dj.symm {A B : Hp} (h : Dj A B) : Dj B A := fun a => (h a).symm
theorem Dj.em_l {B : Hp} : Dj em B := fun _ => .inl rfl
theorem Dj.em_r {B : Hp} : Dj B em := fun _ => .inr rfl
theorem Dj.ne {A B : Hp} {a : Addr} {o : HO} (h : Dj A B) (e : A a = some o) : B a = none := by
  rcases h a with q | q
  · rw [q] at e; cases e
  · exact q
theorem Dj.ne' {A B : Hp} {a : Addr} {o : HO} (h : Dj A B) (e : B a = some o) : A a = none := h.symm.ne e
theorem Dj.sub {A A' B B' : Hp} (h : Dj A' B') (ha : Same A A') (hb : Same B B') : Dj A B := fun a => by
  rcases h a with q | q
  · exact .inl (ha.free q)
  · exact .inr (hb.free q)
theorem jn_l {A B : Hp} : Same A (jn A B) := fun a o e => by show (match A a with | some o => some o | none => B a) = _; rw [e]
theorem jn_r {A B : Hp} (h : Dj A B) : Same B (jn A B) := fun a o e => by
  show (match A a with | some o => some o | none => B a) = _
  rw [h.ne' e]; exact e
theorem jn_some {A B : Hp} {a : Addr} {o : HO} (e : jn A B a = some o) : A a = some o ∨ B a = some o := by
  unfold jn at e
  split at e
  · rename_i q; cases e; exact .inl q
  · exact .inr e
theorem jn_none {A B : Hp} {a : Addr} (h1 : A a = none) (h2 : B a = none) : jn A B a = none := by unfold jn; rw [h1]; exact h2
theorem jn_sub {A B H : Hp} (ha : Same A H) (hb : Same B H) : Same (jn A B) H := fun a o e => by
  rcases jn_some e with q | q
  · exact ha _ _ q
  · exact hb _ _ q
theorem dj_jn {A B C : Hp} (ha : Dj A C) (hb : Dj B C) : Dj (jn A B) C := fun a => by
  cases q : C a with
  | none => exact .inr rfl
  | some o => exact .inl (jn_none (ha.ne' q) (hb.ne' q))
theorem dj_jn_r {A B C : Hp} (ha : Dj C A) (hb : Dj C B) : Dj C (jn A B) := (dj_jn ha.symm hb.symm).symm
theorem jn_em {B : Hp} : jn em B = B := rfl
theorem same_upd {H : Hp} {p : Addr} {o : HO} (h : H p = none) : Same H (upd H p o) := fun b x e => by rw [upd_ne (ne_of_none e h)]; exact e
theorem same_upd_l {A H : Hp} {p : Addr} {o : HO} (h : Same A H) (e : H p = some o) : Same (upd A p o) H := fun b x q => by
  by_cases hb : b = p
  · subst hb; rw [upd_same] at q; cases q; exact e
  · rw [upd_ne hb] at q; exact h _ _ q
theorem dj_upd_l {A B : Hp} {p : Addr} {o : HO} (h : Dj A B) (e : B p = none) : Dj (upd A p o) B := fun a => by
  by_cases hb : a = p
  · subst hb; exact .inr e
  · rw [upd_ne hb]; exact h a

/-! ### what represents a datum, all of it in F -/
mutual
inductive Rp (g : Gx) (F : Hp) : V → D → Prop
  | non : Rp g F .non .non
  | bl (b : Bool) : Rp g F (.bl b) (.bl b)
  | int (i : Int) : Rp g F (.int i) (.int i)
  | str (s : Str) : Rp g F (.str s) (.str s)
  | lst {a : Addr} {xs : List V} {ds : List D} : F a = some (.lst xs) → RpAll g F xs ds → Rp g F (.ref a) (.lst ds)
  | tup {a : Addr} {xs : List V} {ds : List D} : F a = some (.tup xs) → RpAll g F xs ds → Rp g F (.ref a) (.tup ds)
  | ktup {a : Addr} {xs : List V} {ds : List D} : SqT g.K em a xs → ds.length = 2 → RpAll g F xs ds → Rp g F (.ref a) (.tup ds)
  | dk {a : Addr} {kvs : List (Key × V)} {ds : List (Key × D)} : Rd F a (.dK kvs) → kvs.map (·.1) = ds.map (·.1) → RpAll g F (kvs.map (·.2)) (ds.map (·.2)) → Rp g F (.ref a) (.dk ds)
  | dt {a : Addr} {kvs : List (List Key × V)} {ds : List (List Key × D)} : Rd F a (.dT kvs) → kvs.map (·.1) = ds.map (·.1) → RpAll g F (kvs.map (·.2)) (ds.map (·.2)) → Rp g F (.ref a) (.dt ds)
  | st {a : Addr} {S : Int → Bool} {l : List Int} : F a = some (SetO g.w a S l.length) → (∀ k, k ∈ l ↔ S k = true) → l.Nodup → Rp g F (.ref a) (.st l)
  | scr {a : Addr} {l : List Int} : SqL g.K F a (l.map V.int) → Rp g F (.ref a) (.scr l)
  | fn {a : Addr} {x : Str} : g.mg x = some (.ref a) → Rp g F (.ref a) (.fn x)
  | ob {a C dx : Addr} {c : Str} {fs : List (Str × V)} {ds : List (Str × D)} : g.mg c = some (.ref C) → F a = some (.ins C dx fs) → F dx = some (.own a) → fs.map (·.1) = ds.map (·.1) → RpAll g F (fs.map (·.2)) (ds.map (·.2)) → Rp g F (.ref a) (.ob c ds)
inductive RpAll (g : Gx) (F : Hp) : List V → List D → Prop
  | nil : RpAll g F [] []
  | cons {v : V} {vs : List V} {d : D} {ds : List D} : Rp g F v d → RpAll g F vs ds → RpAll g F (v :: vs) (d :: ds)
end
theorem Same.seqT {K : PySem.W.Frag} {H H' : Hp} {a : Addr} {xs : List V} (e : Same H H') (h : SqT K H a xs) : SqT K H' a xs := by
  rcases h with (h | ⟨o, h⟩) | h
  · exact .inl (.inl (e _ _ h))
  · exact .inl (.inr ⟨o, e _ _ h⟩)
  · exact .inr h
theorem Same.rdm {H H' : Hp} {a : Addr} {u : HO} (e : Same H H') (h : Rd H a u) : Rd H' a u := by
  rcases h with h | ⟨o, h⟩
  · exact .inl (e _ _ h)
  · exact .inr ⟨o, e _ _ h⟩
section
variable {g : Gx} {F F' H M M' M1 M2 G : Hp}
mutual
theorem Rp.mono (s : Same F F') : ∀ {v d}, Rp g F v d → Rp g F' v d
  | _, _, .non => .non
  | _, _, .bl b => .bl b
  | _, _, .int i => .int i
  | _, _, .str i => .str i
  | _, _, .lst h r => .lst (s _ _ h) (RpAll.mono s r)
  | _, _, .tup h r => .tup (s _ _ h) (RpAll.mono s r)
  | _, _, .ktup h l r => .ktup h l (RpAll.mono s r)
  | _, _, .ob h1 h2 h3 h4 h5 => .ob h1 (s _ _ h2) (s _ _ h3) h4 (RpAll.mono s h5)
  | _, _, .dk h k r => .dk (Same.rdm s h) k (RpAll.mono s r)
  | _, _, .dt h k r => .dt (Same.rdm s h) k (RpAll.mono s r)
  | _, _, .st h k r => .st (s _ _ h) k r
  | _, _, .scr h => .scr (Same.seq s h)
  | _, _, .fn h => .fn h
theorem RpAll.mono (s : Same F F') : ∀ {v d}, RpAll g F v d → RpAll g F' v d
  | _, _, .nil => .nil
  | _, _, .cons h t => .cons (Rp.mono s h) (RpAll.mono s t)
end
theorem RpAll.length : ∀ {vs : List V} {ds : List D}, RpAll g F vs ds → vs.length = ds.length
  | _, _, .nil => rfl
  | _, _, .cons _ t => by rw [List.length_cons, List.length_cons, RpAll.length t]
theorem RpAll.get : ∀ {vs : List V} {ds : List D} {i : Nat} {d : D}, RpAll g F vs ds → ds[i]? = some d → ∃ v, vs[i]? = some v ∧ Rp g F v d
  | _, _, i, _, .nil, e => by simp at e
  | _, _, 0, _, .cons r _, e => by simp at e; subst e; exact ⟨_, rfl, r⟩
  | _, _, i + 1, d, .cons _ t, e => by
    obtain ⟨u, h1, h2⟩ := RpAll.get (i := i) (d := d) t (by simpa using e)
    exact ⟨u, by simpa using h1, h2⟩
theorem RpAll.append : ∀ {vs ws : List V} {ds es : List D}, RpAll g F vs ds → RpAll g F ws es → RpAll g F (vs ++ ws) (ds ++ es)
  | _, _, _, _, .nil, h => h
  | _, _, _, _, .cons r t, h => .cons r (RpAll.append t h)
theorem RpAll.take : ∀ {vs : List V} {ds : List D} (n : Nat), RpAll g F vs ds → RpAll g F (vs.take n) (ds.take n)
  | _, _, 0, _ => .nil
  | _, _, _ + 1, .nil => .nil
  | _, _, n + 1, .cons r t => .cons r (RpAll.take n t)
theorem RpAll.drop : ∀ {vs : List V} {ds : List D} (n : Nat), RpAll g F vs ds → RpAll g F (vs.drop n) (ds.drop n)
  | _, _, 0, r => r
  | _, _, _ + 1, .nil => .nil
  | _, _, n + 1, .cons _ t => RpAll.drop n t
theorem RpAll.set : ∀ {vs : List V} {ds : List D} (i : Nat) {v : V} {d : D}, RpAll g F vs ds → Rp g F v d → RpAll g F (vs.set i v) (ds.set i d)
  | _, _, _, _, _, .nil, _ => .nil
  | _, _, 0, _, _, .cons _ t, h => .cons h t
  | _, _, i + 1, _, _, .cons r t, h => .cons r (RpAll.set i t h)
theorem RpAll.erase : ∀ {vs : List V} {ds : List D} (i : Nat), RpAll g F vs ds → RpAll g F (vs.eraseIdx i) (ds.eraseIdx i)
  | _, _, _, .nil => .nil
  | _, _, 0, .cons _ t => t
  | _, _, i + 1, .cons r t => .cons r (RpAll.erase i t)
theorem RpAll.reverse : ∀ {vs : List V} {ds : List D}, RpAll g F vs ds → RpAll g F vs.reverse ds.reverse
  | _, _, .nil => .nil
  | _, _, .cons r t => by
    rw [List.reverse_cons, List.reverse_cons]
    exact (RpAll.reverse t).append (.cons r .nil)
theorem RpAll.ints : ∀ (ns : List Int), RpAll g F (ns.map V.int) (ns.map D.int)
  | [] => .nil
  | n :: ns => .cons (.int n) (RpAll.ints ns)
theorem RpAll.ints_inv : ∀ {ns : List Int} {vs : List V}, RpAll g F vs (ns.map D.int) → vs = ns.map V.int
  | [], _, .nil => rfl
  | n :: ns, _, .cons h t => by cases h; rw [RpAll.ints_inv t]; rfl
theorem RpAll.strs_inv : ∀ {ns : List Str} {vs : List V}, RpAll g F vs (ns.map D.str) → vs = ns.map V.str
  | [], _, .nil => rfl
  | n :: ns, _, .cons h t => by cases h; rw [RpAll.strs_inv t]; rfl
theorem RpAll.bls_inv : ∀ {ns : List Bool} {vs : List V}, RpAll g F vs (ns.map D.bl) → vs = ns.map V.bl
  | [], _, .nil => rfl
  | n :: ns, _, .cons h t => by cases h; rw [RpAll.bls_inv t]; rfl
end

/-! ### owned trees: F what is frozen, M what is owned -/
mutual
inductive RO (g : Gx) (F : Hp) : Hp → V → T → Prop
  | z {M : Hp} {v : V} {d : D} : Rp g F v d → RO g F M v (.z d)
  | l {M M' : Hp} {a : Addr} {xs : List V} {ts : List T} : M a = some (.lst xs) → Same M' M → M' a = none → ROs g F M' xs ts → RO g F M (.ref a) (.l ts)
  | dk {M M' : Hp} {a : Addr} {kvs : List (Key × V)} {ts : List (Key × T)} : M a = some (.dK kvs) → Same M' M → M' a = none → kvs.map (·.1) = ts.map (·.1) → ROs g F M' (kvs.map (·.2)) (ts.map (·.2)) → RO g F M (.ref a) (.dk ts)
  | dt {M : Hp} {a : Addr} {kvs : List (List Key × V)} {ds : List (List Key × D)} : M a = some (.dT kvs) → kvs.map (·.1) = ds.map (·.1) → RpAll g F (kvs.map (·.2)) (ds.map (·.2)) → RO g F M (.ref a) (.dt ds)
  | ob {M M' : Hp} {a C dx : Addr} {c : Str} {fs : List (Str × V)} {ts : List (Str × T)} : g.mg c = some (.ref C) → M a = some (.ins C dx fs) → M dx = some (.own a) → Same M' M → M' a = none → M' dx = none →
      fs.map (·.1) = ts.map (·.1) → ROs g F M' (fs.map (·.2)) (ts.map (·.2)) → RO g F M (.ref a) (.ob c ts)
  | tp {M : Hp} {a : Addr} {xs : List V} {ts : List T} : F a = some (.tup xs) → ROs g F M xs ts → RO g F M (.ref a) (.tp ts)
  | gone {M : Hp} {v : V} : RO g F M v .gone
inductive ROs (g : Gx) (F : Hp) : Hp → List V → List T → Prop
  | nil {M : Hp} : ROs g F M [] []
  | cons {M M1 M2 : Hp} {v : V} {vs : List V} {t : T} {ts : List T} : RO g F M1 v t → ROs g F M2 vs ts → Same M1 M → Same M2 M → Dj M1 M2 → ROs g F M (v :: vs) (t :: ts)
end
section
variable {g : Gx} {F F' H M M' M1 M2 G : Hp}
mutual
theorem RO.mono (s : Same F F') : ∀ {M v t}, RO g F M v t → RO g F' M v t
  | _, _, _, .z h => .z (h.mono s)
  | _, _, _, .l h1 h2 h3 h4 => .l h1 h2 h3 (ROs.mono s h4)
  | _, _, _, .dk h1 h2 h3 h4 h5 => .dk h1 h2 h3 h4 (ROs.mono s h5)
  | _, _, _, .dt h1 h2 h3 => .dt h1 h2 (h3.mono s)
  | _, _, _, .ob h1 h2 h3 h4 h5 h6 h7 h8 => .ob h1 h2 h3 h4 h5 h6 h7 (ROs.mono s h8)
  | _, _, _, .tp h1 h2 => .tp (s _ _ h1) (ROs.mono s h2)
  | _, _, _, .gone => .gone
theorem ROs.mono (s : Same F F') : ∀ {M v t}, ROs g F M v t → ROs g F' M v t
  | _, _, _, .nil => .nil
  | _, _, _, .cons h1 h2 h3 h4 h5 => .cons (RO.mono s h1) (ROs.mono s h2) h3 h4 h5
end
theorem RO.ext {v t} (h : RO g F M v t) (s : Same M M') : RO g F M' v t := by
  cases h with
  | z h => exact .z h
  | l h1 h2 h3 h4 => exact .l (s _ _ h1) (h2.trans s) h3 h4
  | dk h1 h2 h3 h4 h5 => exact .dk (s _ _ h1) (h2.trans s) h3 h4 h5
  | dt h1 h2 h3 => exact .dt (s _ _ h1) h2 h3
  | ob h1 h2 h3 h4 h5 h6 h7 h8 => exact .ob h1 (s _ _ h2) (s _ _ h3) (h4.trans s) h5 h6 h7 h8
  | tp h1 h2 => exact .tp h1 (by cases h2 with
    | nil => exact .nil
    | cons k1 k2 k3 k4 k5 => exact .cons k1 k2 (k3.trans s) (k4.trans s) k5)
  | gone => exact .gone
theorem ROs.ext {v t} (h : ROs g F M v t) (s : Same M M') : ROs g F M' v t := by
  cases h with
  | nil => exact .nil
  | cons h1 h2 h3 h4 h5 => exact .cons h1 h2 (h3.trans s) (h4.trans s) h5
theorem ROs.length : ∀ {M} {vs : List V} {ts : List T}, ROs g F M vs ts → vs.length = ts.length
  | _, _, _, .nil => rfl
  | _, _, _, .cons _ t _ _ _ => by rw [List.length_cons, List.length_cons, ROs.length t]
theorem ROs.of_all : ∀ {M} {vs : List V} {ds : List D}, RpAll g F vs ds → ROs g F M vs (ds.map T.z)
  | _, _, _, .nil => .nil
  | _, _, _, .cons h t => .cons (M1 := em) (M2 := em) (.z h) (ROs.of_all t) Same.empty Same.empty Dj.em_l
theorem ROs.all_of : ∀ {M} {vs : List V} {ds : List D}, ROs g F M vs (ds.map T.z) → RpAll g F vs ds
  | _, [], [], _ => .nil
  | _, _ :: _, _ :: _, .cons h t _ _ _ => by
    cases h with
    | z h => exact .cons h (ROs.all_of t)
/-- one place of an owned row in the hand: what stands there, the rest, and how it is put back -/
theorem ROs.pick : ∀ {M} {vs : List V} {ts : List T} {i : Nat} {t : T}, ROs g F M vs ts → ts[i]? = some t →
    ∃ v M1 M2, vs[i]? = some v ∧ RO g F M1 v t ∧ Same M1 M ∧ Same M2 M ∧ Dj M1 M2 ∧
      ∀ F' M1' v' t' M', Same F F' → RO g F' M1' v' t' → Dj M1' M2 → Same M1' M' → Same M2 M' → ROs g F' M' (vs.set i v') (ts.set i t')
  | _, _, _, i, _, .nil, e => by simp at e
  | M, _, _, 0, t, .cons (M1 := M1) (M2 := M2) (v := v) h1 h2 h3 h4 h5, e => by
    simp at e; subst e
    exact ⟨v, M1, M2, rfl, h1, h3, h4, h5, fun F' M1' v' t' M' s r d s1 s2 => .cons r (h2.mono s) s1 s2 d⟩
  | M, _, _, i + 1, t, .cons (M1 := A) (M2 := B) (v := v) h1 h2 h3 h4 h5, e => by
    obtain ⟨u, M1, M2, e1, r, s1, s2, d, back⟩ := ROs.pick (i := i) (t := t) h2 (by simpa using e)
    have dA2 : Dj A M2 := h5.sub (Same.refl _) s2
    refine ⟨u, M1, jn A M2, by simpa using e1, r, s1.trans h4, jn_sub h3 (s2.trans h4), dj_jn_r (h5.sub (Same.refl _) s1).symm d, fun F' M1' v' t' M' s r' d' sa sb => ?_⟩
    have dA1 : Dj A M1' := (d'.sub (Same.refl _) jn_l).symm
    have d12 : Dj M1' M2 := d'.sub (Same.refl _) (jn_r dA2)
    have q := back F' M1' v' t' (jn M1' M2) s r' d12 jn_l (jn_r d12)
    refine .cons (M1 := A) (M2 := jn M1' M2) (h1.mono s) q (jn_l.trans sb) (jn_sub sa ((jn_r dA2).trans sb)) (dj_jn_r dA1 dA2)
theorem ROs.append : ∀ {M M1 M2} {vs ws : List V} {ts us : List T}, ROs g F M1 vs ts → ROs g F M2 ws us → Dj M1 M2 → Same M1 M → Same M2 M → ROs g F M (vs ++ ws) (ts ++ us)
  | _, _, _, _, _, _, _, .nil, h, _, _, s => h.ext s
  | M, M1, M2, _, _, _, _, .cons (M1 := A) (M2 := B) h1 h2 h3 h4 h5, h, d, s1, s2 => by
    have dB : Dj B M2 := d.sub h4 (Same.refl _)
    have dA : Dj A M2 := d.sub h3 (Same.refl _)
    exact .cons h1 (ROs.append (M := jn B M2) h2 h dB jn_l (jn_r dB)) (h3.trans s1) (jn_sub (h4.trans s1) s2) (dj_jn_r h5 dA)

/-! ### freezing -/
mutual
def T.fz : T → Option D
  | .z d => some d
  | .l ts => match T.fzs ts with | some ds => some (.lst ds) | none => none
  | .dk kvs => match T.fzk kvs with | some ds => some (.dk ds) | none => none
  | .dt kvs => some (.dt kvs)
  | .ob c fs => match T.fzo fs with | some ds => some (.ob c ds) | none => none
  | .tp ts => match T.fzs ts with | some ds => some (.tup ds) | none => none
  | .gone => none
def T.fzo : List (Str × T) → Option (List (Str × D))
  | [] => some []
  | (k, t) :: ts => match T.fz t, T.fzo ts with | some d, some ds => some ((k, d) :: ds) | _, _ => none
def T.fzs : List T → Option (List D)
  | [] => some []
  | t :: ts => match T.fz t, T.fzs ts with | some d, some ds => some (d :: ds) | _, _ => none
def T.fzk : List (Key × T) → Option (List (Key × D))
  | [] => some []
  | (k, t) :: ts => match T.fz t, T.fzk ts with | some d, some ds => some ((k, d) :: ds) | _, _ => none
end
theorem fzs_z : ∀ ds : List D, T.fzs (ds.map T.z) = some ds
  | [] => rfl
  | d :: ds => by rw [List.map_cons, T.fzs, fzs_z ds]; rfl
theorem fz_l (ds : List D) : T.fz (.l (ds.map T.z)) = some (.lst ds) := by rw [T.fz, fzs_z]
theorem fzk_of : ∀ {ts : List (Key × T)} {ds : List (Key × D)}, T.fzk ts = some ds → ts.map (·.1) = ds.map (·.1) ∧ T.fzs (ts.map (·.2)) = some (ds.map (·.2))
  | [], ds, e => by rw [T.fzk] at e; cases e; exact ⟨rfl, rfl⟩
  | (k, t) :: ts, ds, e => by
    rw [T.fzk] at e
    cases h1 : T.fz t with
    | none => rw [h1] at e; cases e
    | some d =>
      cases h2 : T.fzk ts with
      | none => rw [h1, h2] at e; cases e
      | some es =>
        rw [h1, h2] at e; cases e
        obtain ⟨q1, q2⟩ := fzk_of h2
        refine ⟨by rw [List.map_cons, List.map_cons, q1], ?_⟩
        rw [List.map_cons, T.fzs, h1, q2]; rfl
theorem fzo_of : ∀ {ts : List (Str × T)} {ds : List (Str × D)}, T.fzo ts = some ds → ts.map (·.1) = ds.map (·.1) ∧ T.fzs (ts.map (·.2)) = some (ds.map (·.2))
  | [], ds, e => by rw [T.fzo] at e; cases e; exact ⟨rfl, rfl⟩
  | (k, t) :: ts, ds, e => by
    rw [T.fzo] at e
    cases h1 : T.fz t with
    | none => rw [h1] at e; cases e
    | some d =>
      cases h2 : T.fzo ts with
      | none => rw [h1, h2] at e; cases e
      | some es =>
        rw [h1, h2] at e; cases e
        obtain ⟨q1, q2⟩ := fzo_of h2
        refine ⟨by rw [List.map_cons, List.map_cons, q1], ?_⟩
        rw [List.map_cons, T.fzs, h1, q2]; rfl
mutual
theorem RO.fz : ∀ {M v t d F'}, RO g F M v t → T.fz t = some d → Same F F' → Same M F' → Rp g F' v d
  | _, _, _, _, _, .z h, e, s, _ => by rw [T.fz] at e; cases e; exact h.mono s
  | _, _, .l ts, _, _, .l h1 h2 h3 h4, e, s, m => by
    rw [T.fz] at e
    cases q : T.fzs ts with
    | none => rw [q] at e; cases e
    | some ds =>
      rw [q] at e; cases e
      exact .lst (m _ _ h1) (ROs.fz h4 q s (h2.trans m))
  | _, _, .dk ts, _, _, .dk h1 h2 h3 h4 h5, e, s, m => by
    rw [T.fz] at e
    cases q : T.fzk ts with
    | none => rw [q] at e; cases e
    | some ds =>
      rw [q] at e; cases e
      obtain ⟨q1, q2⟩ := fzk_of q
      exact .dk (.inl (m _ _ h1)) (h4.trans q1) (ROs.fz h5 q2 s (h2.trans m))
  | _, _, _, _, _, .dt h1 h2 h3, e, s, m => by rw [T.fz] at e; cases e; exact .dt (.inl (m _ _ h1)) h2 (h3.mono s)
  | _, _, .ob c ts, _, _, .ob h1 h2 h3 h4 h5 h6 h7 h8, e, s, m => by
    rw [T.fz] at e
    cases q : T.fzo ts with
    | none => rw [q] at e; cases e
    | some ds =>
      rw [q] at e; cases e
      obtain ⟨q1, q2⟩ := fzo_of q
      exact .ob h1 (m _ _ h2) (m _ _ h3) (h7.trans q1) (ROs.fz h8 q2 s (h4.trans m))
  | _, _, .tp ts, _, _, .tp h1 h2, e, s, m => by
    rw [T.fz] at e
    cases q : T.fzs ts with
    | none => rw [q] at e; cases e
    | some ds =>
      rw [q] at e; cases e
      exact .tup (s _ _ h1) (ROs.fz h2 q s m)
  | _, _, _, _, _, .gone, e, _, _ => by rw [T.fz] at e; cases e
theorem ROs.fz : ∀ {M vs ts ds F'}, ROs g F M vs ts → T.fzs ts = some ds → Same F F' → Same M F' → RpAll g F' vs ds
  | _, _, _, _, _, .nil, e, _, _ => by rw [T.fzs] at e; cases e; exact .nil
  | _, _, t :: ts, _, _, .cons h1 h2 h3 h4 h5, e, s, m => by
    rw [T.fzs] at e
    cases q1 : T.fz t with
    | none => rw [q1] at e; cases e
    | some d =>
      cases q2 : T.fzs ts with
      | none => rw [q1, q2] at e; cases e
      | some es =>
        rw [q1, q2] at e; cases e
        exact .cons (RO.fz h1 q1 s (h3.trans m)) (ROs.fz h2 q2 s (h4.trans m))
end
end

/-! ### a def's state: the slots' owned trees, the frame G -/
/-- all tuples of H stand in F -/
def Ft (F H : Hp) : Prop := ∀ a xs, H a = some (.tup xs) → F a = some (.tup xs)
theorem Ft.mono {F F' H : Hp} (h : Ft F H) (s : Same F F') : Ft F' H := fun a xs e => s _ _ (h a xs e)
theorem Ft.cell {F H : Hp} {p : Addr} {o : HO} (h : Ft F H) (n : ∀ xs, o ≠ .tup xs) : Ft F (upd H p o) := fun a xs e => by
  by_cases q : a = p
  · subst q; rw [upd_same] at e; cases e; exact absurd rfl (n xs)
  · rw [upd_ne q] at e; exact h a xs e
theorem Ft.both {F H : Hp} {p : Addr} {o : HO} (h : Ft F H) : Ft (upd F p o) (upd H p o) := fun a xs e => by
  by_cases q : a = p
  · subst q; rw [upd_same] at e ⊢; exact e
  · rw [upd_ne q] at e ⊢; exact h a xs e
structure Hc (F M G H : Hp) : Prop where
  fh : Same F H
  mh : Same M H
  gh : Same G H
  fm : Dj F M
  fg : Dj F G
  mg : Dj M G
  ft : Ft F H
structure Sta (g : Gx) (F M G H : Hp) (σ : L2.St) (ts : List T) : Prop where
  hc : Hc F M G H
  vs : ∃ vs, ROs g F M vs ts ∧ ∀ (i : Nat) (v : V) (t : T), vs[i]? = some v → ts[i]? = some t → t = .gone ∨ σ[i]? = some (some v)
  len : σ.length = ts.length

end Ar
/-! ArB: operations on data, and that the operations on values do them. -/
namespace Ar
open PySem PySem.Spec PyProof.Rows L2

/-! ### data as the library's PyData -/
mutual
def D.py : D → Option PyData
  | .non => some .none
  | .bl b => some (.bool b)
  | .int i => some (.int i)
  | .str s => some (.str s)
  | .lst l => match D.pys l with | some x => some (.list x) | none => none
  | .tup l => match D.pys l with | some x => some (.tuple x) | none => none
  | .dk _ => none
  | .dt _ => none
  | .st _ => none
  | .scr _ => none
  | .fn _ => none
  | .ob _ _ => none
def D.pys : List D → Option (List PyData)
  | [] => some []
  | d :: ds => match D.py d, D.pys ds with | some x, some y => some (x :: y) | _, _ => none
end
section
variable {g : Gx} {F H : Hp}
mutual
theorem Rp.dp (s : Same F H) : ∀ {v d p}, Rp g F v d → D.py d = some p → Dp g.K H v p
  | _, _, _, .non, e => by rw [D.py] at e; cases e; exact .non
  | _, _, _, .bl b, e => by rw [D.py] at e; cases e; exact .bl b
  | _, _, _, .int i, e => by rw [D.py] at e; cases e; exact .int i
  | _, _, _, .str x, e => by rw [D.py] at e; cases e; exact .str x
  | _, .lst l, _, .lst h r, e => by
    rw [D.py] at e
    cases q : D.pys l with
    | none => rw [q] at e; cases e
    | some x => rw [q] at e; cases e; exact .lst (.of (s _ _ h)) (RpAll.dp s r q)
  | _, .tup l, _, .tup h r, e => by
    rw [D.py] at e
    cases q : D.pys l with
    | none => rw [q] at e; cases e
    | some x => rw [q] at e; cases e; exact .tup (.of (s _ _ h)) (RpAll.dp s r q)
  | _, .tup l, _, .ktup h _ r, e => by
    rw [D.py] at e
    cases q : D.pys l with
    | none => rw [q] at e; cases e
    | some x => rw [q] at e; cases e; exact .tup (Same.seqT Same.empty h) (RpAll.dp s r q)
  | _, _, _, .ob _ _ _ _ _, e => by rw [D.py] at e; cases e
  | _, _, _, .dk _ _ _, e => by rw [D.py] at e; cases e
  | _, _, _, .dt _ _ _, e => by rw [D.py] at e; cases e
  | _, _, _, .st _ _ _, e => by rw [D.py] at e; cases e
  | _, _, _, .scr _, e => by rw [D.py] at e; cases e
  | _, _, _, .fn _, e => by rw [D.py] at e; cases e
theorem RpAll.dp (s : Same F H) : ∀ {v d p}, RpAll g F v d → D.pys d = some p → DpAll g.K H v p
  | _, _, _, .nil, e => by rw [D.pys] at e; cases e; exact .nil
  | _, d :: ds, _, .cons h t, e => by
    rw [D.pys] at e
    cases q1 : D.py d with
    | none => rw [q1] at e; cases e
    | some x =>
      cases q2 : D.pys ds with
      | none => rw [q1, q2] at e; cases e
      | some y => rw [q1, q2] at e; cases e; exact .cons (Rp.dp s h q1) (RpAll.dp s t q2)
end
end

theorem Rp.tupS {g : Gx} {F : Hp} {v : V} {ds : List D} (h : Rp g F v (.tup ds)) : ∃ a xs, v = .ref a ∧ SqT g.K F a xs ∧ RpAll g F xs ds := by
  cases h with
  | tup h r => exact ⟨_, _, rfl, .of h, r⟩
  | ktup h _ r => exact ⟨_, _, rfl, Same.seqT Same.empty h, r⟩
/-! ### the view of a value: its root in H, what it holds in F -/
inductive Vh (g : Gx) (F H : Hp) : V → D → Prop
  | r {v : V} {d : D} : Rp g F v d → Vh g F H v d
  | l {a : Addr} {xs : List V} {ds : List D} : H a = some (.lst xs) → RpAll g F xs ds → Vh g F H (.ref a) (.lst ds)
  | dk {a : Addr} {kvs : List (Key × V)} {ds : List (Key × D)} : H a = some (.dK kvs) → kvs.map (·.1) = ds.map (·.1) → RpAll g F (kvs.map (·.2)) (ds.map (·.2)) → Vh g F H (.ref a) (.dk ds)
  | dt {a : Addr} {kvs : List (List Key × V)} {ds : List (List Key × D)} : H a = some (.dT kvs) → kvs.map (·.1) = ds.map (·.1) → RpAll g F (kvs.map (·.2)) (ds.map (·.2)) → Vh g F H (.ref a) (.dt ds)
section
variable {g : Gx} {F H : Hp} {v : V}
theorem Vh.non (h : Vh g F H v .non) : v = .non := by cases h with | r h => cases h; rfl
theorem Vh.bl {b} (h : Vh g F H v (.bl b)) : v = .bl b := by cases h with | r h => cases h; rfl
theorem Vh.int {i} (h : Vh g F H v (.int i)) : v = .int i := by cases h with | r h => cases h; rfl
theorem Vh.str {i} (h : Vh g F H v (.str i)) : v = .str i := by cases h with | r h => cases h; rfl
theorem Vh.lst {ds} (s : Same F H) (h : Vh g F H v (.lst ds)) : ∃ a xs, v = .ref a ∧ H a = some (.lst xs) ∧ RpAll g F xs ds := by
  cases h with
  | r h => cases h with | lst h r => exact ⟨_, _, rfl, s _ _ h, r⟩
  | l h r => exact ⟨_, _, rfl, h, r⟩
theorem Vh.tup {ds} (s : Same F H) (h : Vh g F H v (.tup ds)) : ∃ a xs, v = .ref a ∧ SqT g.K H a xs ∧ RpAll g F xs ds := by
  cases h with
  | r h => cases h with
    | tup h r => exact ⟨_, _, rfl, .of (s _ _ h), r⟩
    | ktup h _ r => exact ⟨_, _, rfl, Same.seqT Same.empty h, r⟩
theorem Vh.tupH {ds} (s : Same F H) (h : Vh g F H v (.tup ds)) (nl : ds.length ≠ 2) : ∃ a xs, v = .ref a ∧ H a = some (.tup xs) ∧ RpAll g F xs ds := by
  cases h with
  | r h => cases h with
    | tup h r => exact ⟨_, _, rfl, s _ _ h, r⟩
    | ktup _ l _ => exact absurd l nl
theorem Vh.tupR {ds} (h : Vh g F H v (.tup ds)) : Rp g F v (.tup ds) := by cases h with | r h => exact h
theorem Vh.scr {ds} (s : Same F H) (h : Vh g F H v (.scr ds)) : ∃ a, v = .ref a ∧ SqL g.K H a (ds.map V.int) := by
  cases h with
  | r h => cases h with | scr h => exact ⟨_, rfl, Same.seq s h⟩
theorem Vh.st {l} (s : Same F H) (h : Vh g F H v (.st l)) : ∃ a S, v = .ref a ∧ H a = some (SetO g.w a S l.length) ∧ (∀ k, k ∈ l ↔ S k = true) ∧ l.Nodup := by
  cases h with
  | r h => cases h with | st h r n => exact ⟨_, _, rfl, s _ _ h, r, n⟩
theorem Vh.dkO {ds} (s : Same F H) (h : Vh g F H v (.dk ds)) : ∃ a kvs, v = .ref a ∧ Rd H a (.dK kvs) ∧ kvs.map (·.1) = ds.map (·.1) ∧ RpAll g F (kvs.map (·.2)) (ds.map (·.2)) := by
  cases h with
  | r h => cases h with | dk h k r => exact ⟨_, _, rfl, Same.rdm s h, k, r⟩
  | dk h k r => exact ⟨_, _, rfl, .inl h, k, r⟩
theorem Vh.dtO {ds} (s : Same F H) (h : Vh g F H v (.dt ds)) : ∃ a kvs, v = .ref a ∧ Rd H a (.dT kvs) ∧ kvs.map (·.1) = ds.map (·.1) ∧ RpAll g F (kvs.map (·.2)) (ds.map (·.2)) := by
  cases h with
  | r h => cases h with | dt h k r => exact ⟨_, _, rfl, Same.rdm s h, k, r⟩
  | dt h k r => exact ⟨_, _, rfl, .inl h, k, r⟩
theorem Vh.dp {d p} (s : Same F H) (h : Vh g F H v d) (e : D.py d = some p) : Dp g.K H v p := by
  cases h with
  | r h => exact h.dp s e
  | l h r =>
    rename_i ds
    rw [D.py] at e
    cases q : D.pys ds with
    | none => rw [q] at e; cases e
    | some x => rw [q] at e; cases e; exact .lst (.of h) (r.dp s q)
  | dk _ _ _ => rw [D.py] at e; cases e
  | dt _ _ _ => rw [D.py] at e; cases e

/-- what an operation hands on: a thing that is there, a new one that is owned, a new one that is frozen -/
def Out (g : Gx) (F H : Hp) (t : T) (Q : VK) : Prop :=
  (∀ v, (∀ M, RO g F M v t) → Q v H) ∧
  (∀ p o, H p = none → (∀ M, M p = some o → RO g F M (.ref p) t) → Q (.ref p) (upd H p o)) ∧
  (∀ p o d, t = .z d → H p = none → Rp g (upd F p o) (.ref p) d → Q (.ref p) (upd H p o))
theorem Out.val {d Q} (h : Out g F H (.z d) Q) (r : Rp g F v d) : Q v H := h.1 v fun _ => .z r
theorem Out.new {ds : List D} {xs : List V} {Q : VK} (h : Out g F H (.l (ds.map T.z)) Q) (r : RpAll g F xs ds) : ∀ p, H p = none → Q (.ref p) (upd H p (.lst xs)) := fun p hp =>
  h.2.1 p _ hp fun M e => .l (M' := em) e Same.empty rfl (ROs.of_all r)
theorem Out.newT {ds : List D} {xs : List V} {Q : VK} (s : Same F H) (h : Out g F H (.z (.tup ds)) Q) (r : RpAll g F xs ds) : ∀ p, H p = none → Q (.ref p) (upd H p (.tup xs)) := fun p hp =>
  h.2.2 p _ _ rfl hp (.tup upd_same (r.mono (same_upd (s.free hp))))
end

def Op2 (g : Gx) (r : R2) (f : D → D → Option T) : Prop := ∀ F H x y dx dy t Q, Same F H → Vh g F H x dx → Vh g F H y dy → f dx dy = some t → Out g F H t Q → r x y H Q
def Op1 (g : Gx) (r : V → Hp → VK → Prop) (f : D → Option T) : Prop := ∀ F H x dx t Q, Same F H → Vh g F H x dx → f dx = some t → Out g F H t Q → r x H Q

/-! ### arithmetic -/
def bigN : Nat := 2 ^ 4000
def lim : Nat := 1000000
theorem lim_le {n : Nat} (h : n ≤ lim) : n ≤ sizeLine := Nat.le_trans h (by decide)
theorem lim_lt {n : Nat} (h : n ≤ lim) : n < sizeLine := Nat.lt_of_le_of_lt h (by decide)
theorem lim_lt' {n : Nat} (h : n < lim) : n < sizeLine := lim_lt (Nat.le_of_lt h)
def oAdd : D → D → Option T
  | .int i, .int j => some (.z (.int (i + j)))
  | .str a, .str b => if a.length + b.length ≤ lim then some (.z (.str (a ++ b))) else none
  | .lst a, .lst b => if a.length + b.length ≤ lim then some (.l ((a ++ b).map .z)) else none
  | .tup a, .tup b => if a.length + b.length ≤ lim then some (.z (.tup (a ++ b))) else none
  | _, _ => none
def oSub : D → D → Option T
  | .int i, .int j => some (.z (.int (i - j)))
  | _, _ => none
def small (i : Int) : Prop := -18446744073709551616 < i ∧ i < 18446744073709551616
instance (i : Int) : Decidable (small i) := by unfold small; infer_instance
def oMul : D → D → Option T
  | .int i, .int j => if small i ∨ small j ∨ (i.natAbs < bigN ∧ j.natAbs < bigN) then some (.z (.int (i * j))) else none
  | _, _ => none
def oDiv : D → D → Option T
  | .int i, .int j => if 0 < j ∧ j.natAbs < bigN then some (.z (.int (i / j))) else none
  | _, _ => none
def oMod : D → D → Option T
  | .int i, .int j => if 0 < j then some (.z (.int (i % j))) else none
  | _, _ => none
def oPow : D → D → Option T
  | .int i, .int j => if 0 ≤ j ∧ j ≤ 1000000 ∧ small i then some (.z (.int (i ^ j.toNat))) else none
  | _, _ => none
def rAddAll (K : PySem.W.Frag) : R2 := fun x y H Q => (((rI0 fun i j => .int (i + j)) x y H Q ∨ (∃ i j, x = .str i ∧ y = .str j ∧ i.length + j.length ≤ sizeLine ∧ Q (.str (i ++ j)) H)) ∨ rCat x y H Q) ∨ rCatA K x y H Q
theorem op_addAll {X : Cx} : OpR X (binaryOp .Add) (rAddAll X.K) := ((op_add.or op_add_str).or op_cat).or op_catA
theorem opAdd {g : Gx} : Op2 g (rAddAll g.K) oAdd := by
  intro F H x y dx dy t Q s hx hy e q
  unfold oAdd at e
  split at e
  · cases e; cases hx.int; cases hy.int
    exact .inl (.inl (.inl ⟨_, _, rfl, rfl, q.val (.int _)⟩))
  · split at e
    · rename_i h; cases e; cases hx.str; cases hy.str
      exact .inl (.inl (.inr ⟨_, _, rfl, rfl, lim_le h, q.val (.str _)⟩))
    · cases e
  · split at e
    · rename_i h; cases e
      obtain ⟨a, xs, rfl, ha, ra⟩ := hx.lst s
      obtain ⟨b, ys, rfl, hb, rb⟩ := hy.lst s
      refine .inl (.inr ⟨a, b, xs, ys, rfl, rfl, ha, hb, lim_le ?_, q.new (ra.append rb)⟩)
      rw [ra.length, rb.length]; exact h
    · cases e
  · split at e
    · rename_i h; cases e
      have vx := hx.tupR
      have vy := hy.tupR
      obtain ⟨a, xs, rfl, ha, ra⟩ := hx.tup s
      obtain ⟨b, ys, rfl, hb, rb⟩ := hy.tup s
      refine .inr ⟨a, b, xs, ys, rfl, rfl, ha, hb, lim_le ?_, fun z => ?_, fun _ z => ?_, fun _ _ => q.newT s (ra.append rb)⟩
      · rw [ra.length, rb.length]; exact h
      · subst z; cases ra; exact q.val vy
      · subst z; cases rb; rw [List.append_nil] at q; exact q.val vx
    · cases e
  · cases e
theorem opSub {g : Gx} : Op2 g (rI0 fun i j => .int (i - j)) oSub := by
  intro F H x y dx dy t Q s hx hy e q
  unfold oSub at e
  split at e
  · cases e; cases hx.int; cases hy.int; exact ⟨_, _, rfl, rfl, q.val (.int _)⟩
  · cases e
theorem small_mul {i : Int} (h : small i) : -(2 ^ 64) < i ∧ i < 2 ^ 64 := by unfold small at h; omega
theorem big_log {n : Nat} (h : n < bigN) : n.log2 < 4000 := PySem.Flt.log2_lt_of (by decide) h
def rMulAll : R2 := fun x y H Q => (rI CMul fun i j => .int (i * j)) x y H Q ∨ (rI CMulW fun i j => .int (i * j)) x y H Q
theorem op_mulAll {X : Cx} : OpR X (binaryOp .Mult) rMulAll := op_mul.or op_mulW
theorem opMul {g : Gx} : Op2 g rMulAll oMul := by
  intro F H x y dx dy t Q s hx hy e q
  unfold oMul at e
  split at e
  · split at e
    · rename_i h; cases e; cases hx.int; cases hy.int
      rcases h with h | h | ⟨h1, h2⟩
      · exact .inl ⟨_, _, rfl, rfl, .inl (small_mul h), q.val (.int _)⟩
      · exact .inl ⟨_, _, rfl, rfl, .inr (small_mul h), q.val (.int _)⟩
      · refine .inr ⟨_, _, rfl, rfl, ?_, q.val (.int _)⟩
        have a1 := big_log h1
        have a2 := big_log h2
        unfold CMulW; omega
    · cases e
  · cases e
theorem opDiv {g : Gx} : Op2 g (rI CDivW fun i j => .int (i / j)) oDiv := by
  intro F H x y dx dy t Q s hx hy e q
  unfold oDiv at e
  split at e
  · split at e
    · rename_i h; cases e; cases hx.int; cases hy.int
      exact ⟨_, _, rfl, rfl, ⟨h.1, Nat.lt_trans (big_log h.2) (by decide)⟩, q.val (.int _)⟩
    · cases e
  · cases e
theorem opMod {g : Gx} : Op2 g (rI (fun _ j => 0 < j) fun i j => .int (i % j)) oMod := by
  intro F H x y dx dy t Q s hx hy e q
  unfold oMod at e
  split at e
  · split at e
    · rename_i h; cases e; cases hx.int; cases hy.int
      exact ⟨_, _, rfl, rfl, h, q.val (.int _)⟩
    · cases e
  · cases e
theorem opPow {g : Gx} : Op2 g (rI CPow fun i j => .int (i ^ j.toNat)) oPow := by
  intro F H x y dx dy t Q s hx hy e q
  unfold oPow at e
  split at e
  · split at e
    · rename_i h; cases e; cases hx.int; cases hy.int
      refine ⟨_, _, rfl, rfl, ⟨h.1, h.2.1, ?_⟩, q.val (.int _)⟩
      have := small_mul h.2.2; omega
    · cases e
  · cases e

/-! ### comparisons -/
def okq (d : D) : Bool := match D.py d with | some p => SeqAt.shaped p | none => false
def pyD (d : D) : PyData := match D.py d with | some p => p | none => .none
theorem okq_py {d : D} (h : okq d = true) : D.py d = some (pyD d) ∧ SeqAt.shaped (pyD d) = true := by
  unfold okq at h; unfold pyD
  cases q : D.py d with
  | none => rw [q] at h; cases h
  | some p => rw [q] at h; exact ⟨rfl, h⟩
def eqd (a b : D) : Bool := PyData.eqv (pyD a) (pyD b)
def oEq (a b : D) : Option T := if okq a = true ∧ okq b = true then some (.z (.bl (eqd a b))) else none
def oNe (a b : D) : Option T := if okq a = true ∧ okq b = true then some (.z (.bl (!eqd a b))) else none
theorem opEq {g : Gx} : Op2 g (rEqD g.K) oEq := by
  intro F H x y dx dy t Q s hx hy e q
  unfold oEq at e
  split at e
  · rename_i h; cases e
    obtain ⟨e1, s1⟩ := okq_py h.1
    obtain ⟨e2, s2⟩ := okq_py h.2
    exact ⟨_, _, hx.dp s e1, hy.dp s e2, s1, s2, q.val (.bl _)⟩
  · cases e
theorem opNe {g : Gx} : Op2 g (rNeD g.K) oNe := by
  intro F H x y dx dy t Q s hx hy e q
  unfold oNe at e
  split at e
  · rename_i h; cases e
    obtain ⟨e1, s1⟩ := okq_py h.1
    obtain ⟨e2, s2⟩ := okq_py h.2
    exact ⟨_, _, hx.dp s e1, hy.dp s e2, s1, s2, q.val (.bl _)⟩
  · cases e
def toI : D → Option Int
  | .int i => some i
  | _ => none
theorem toI_eq {d : D} {i : Int} (e : toI d = some i) : d = .int i := by cases d <;> first | (cases e; rfl) | cases e
def intsD : List D → Option (List Int)
  | [] => some []
  | d :: r => match toI d, intsD r with | some i, some l => some (i :: l) | _, _ => none
theorem ints_eq : ∀ {ds : List D} {ns : List Int}, intsD ds = some ns → ds = ns.map D.int
  | [], ns, e => by cases e; rfl
  | d :: r, ns, e => by
    rw [intsD] at e
    cases q1 : toI d with
    | none => rw [q1] at e; cases e
    | some k =>
      cases q2 : intsD r with
      | none => rw [q1, q2] at e; cases e
      | some l => rw [q1, q2] at e; cases e; rw [toI_eq q1, ints_eq q2]; rfl
theorem ints_of : ∀ ns : List Int, intsD (ns.map D.int) = some ns
  | [] => rfl
  | n :: r => by rw [List.map_cons, intsD, ints_of r]; rfl
def ltPy (a b : List D) : Option T := match D.pys a, D.pys b with
  | some p, some q => if PySem.W.alikeAll p q = true ∧ (PyData.tuple p).depth ≤ 64 then some (.z (.bl (PySem.W.dataLt (.tuple p) (.tuple q)))) else none
  | _, _ => none
def oLt : D → D → Option T
  | .int i, .int j => some (.z (.bl (decide (i < j))))
  | .tup a, .tup b => match intsD a, intsD b with | some ns, some ms => some (.z (.bl (HT.lexLt ns ms))) | _, _ => ltPy a b
  | _, _ => none
def oLe : D → D → Option T
  | .int i, .int j => some (.z (.bl (decide (i ≤ j))))
  | _, _ => none
def oGt : D → D → Option T
  | .int i, .int j => some (.z (.bl (decide (j < i))))
  | _, _ => none
def oGe : D → D → Option T
  | .int i, .int j => some (.z (.bl (decide (j ≤ i))))
  | _, _ => none
def rLtDD (K : PySem.W.Frag) : R2 := fun x y H Q => ∃ d e, Dp K H x d ∧ Dp K H y e ∧ PySem.W.alike d e = true ∧ d ≠ .none ∧ d.depth ≤ 64 ∧ Q (.bl (PySem.W.dataLt d e)) H
theorem op_ltDD {X : Cx} (hu : X.A.units + 64 < cLine) : OpR X (compareOp .Lt) (rLtDD X.K) := by
  intro pins s σ H x y v u Q I rx ry h
  obtain ⟨d, e, hd, he, al, nn, dp, q⟩ := h
  obtain ⟨as, r1⟩ := Dp.reads I d x v hd rx
  obtain ⟨bs, r2⟩ := Dp.reads I e y u he ry
  exact PySem.W.lt_data r1 r2 al nn (by omega) ⟨.bl _, H, I, rfl, q⟩
def rLtAll (K : PySem.W.Frag) : R2 := fun x y H Q => ((rI0 fun i j => .bl (decide (i < j))) x y H Q ∨ rLtT K x y H Q) ∨ rLtDD K x y H Q
theorem op_ltAll {X : Cx} (hu : X.A.units + 64 < cLine) : OpR X (compareOp .Lt) (rLtAll X.K) := (op_lt.or (op_ltT (by omega))).or (op_ltDD hu)
theorem opLt {g : Gx} : Op2 g (rLtAll g.K) oLt := by
  intro F H x y dx dy t Q s hx hy e q
  unfold oLt at e
  split at e
  · cases e; cases hx.int; cases hy.int; exact .inl (.inl ⟨_, _, rfl, rfl, q.val (.bl _)⟩)
  · split at e
    · rename_i a b ns ms e1 e2
      cases e
      obtain ⟨a, xs, rfl, ha, ra⟩ := hx.tup s
      obtain ⟨b, ys, rfl, hb, rb⟩ := hy.tup s
      rw [ints_eq e1] at ra; rw [ints_eq e2] at rb
      rw [ra.ints_inv] at ha; rw [rb.ints_inv] at hb
      exact .inl (.inr ⟨a, b, ns, ms, rfl, rfl, ha, hb, q.val (.bl _)⟩)
    · unfold ltPy at e
      split at e
      · rename_i p p' e1 e2
        split at e
        · rename_i h
          cases e
          have dd : ∀ l r, D.pys l = some r → D.py (.tup l) = some (.tuple r) := fun l r e => by rw [D.py, e]
          exact .inr ⟨_, _, hx.dp s (dd _ _ e1), hy.dp s (dd _ _ e2), by simp only [PySem.W.alike]; exact h.1, fun z => (by cases z), h.2, q.val (.bl _)⟩
        · cases e
      · cases e
  · cases e
theorem opGt {g : Gx} : Op2 g (rI0 fun i j => .bl (decide (j < i))) oGt := by
  intro F H x y dx dy t Q s hx hy e q
  unfold oGt at e
  split at e
  · cases e; cases hx.int; cases hy.int; exact ⟨_, _, rfl, rfl, q.val (.bl _)⟩
  · cases e
theorem opGe {g : Gx} : Op2 g (rI0 fun i j => .bl (decide (j ≤ i))) oGe := by
  intro F H x y dx dy t Q s hx hy e q
  unfold oGe at e
  split at e
  · cases e; cases hx.int; cases hy.int; exact ⟨_, _, rfl, rfl, q.val (.bl _)⟩
  · cases e
def isNonD : D → Bool
  | .non => true
  | _ => false
theorem Vh.isNon {g : Gx} {F H : Hp} {v : V} {d : D} (h : Vh g F H v d) : decide (v = .non) = isNonD d := by
  cases h with
  | r h => cases h <;> rfl
  | l _ _ => rfl
  | dk _ _ _ => rfl
  | dt _ _ _ => rfl

/-! ### in -/
def D.key : D → Option Key
  | .int i => some (.inl i)
  | .str s => some (.inr s)
  | _ => none
def D.keys : List D → Option (List Key)
  | [] => some []
  | d :: r => match D.key d, D.keys r with | some k, some l => some (k :: l) | _, _ => none
def kD : Key → D
  | .inl i => .int i
  | .inr s => .str s
theorem key_eq {d : D} {k : Key} (e : D.key d = some k) : d = kD k := by
  cases d <;> first | (cases e; rfl) | cases e
theorem keys_eq : ∀ {ds : List D} {ks : List Key}, D.keys ds = some ks → ds = ks.map kD
  | [], ks, e => by cases e; rfl
  | d :: r, ks, e => by
    rw [D.keys] at e
    cases q1 : D.key d with
    | none => rw [q1] at e; cases e
    | some k =>
      cases q2 : D.keys r with
      | none => rw [q1, q2] at e; cases e
      | some l => rw [q1, q2] at e; cases e; rw [key_eq q1, keys_eq q2]; rfl
section
variable {g : Gx} {F H : Hp}
theorem rp_key {v : V} {k : Key} (h : Rp g F v (kD k)) : v = kV k := by cases k <;> (cases h; rfl)
theorem rp_keys : ∀ {ks : List Key} {vs : List V}, RpAll g F vs (ks.map kD) → vs = ks.map kV
  | [], _, .nil => rfl
  | k :: ks, _, .cons h t => by rw [rp_key h, rp_keys t]; rfl
theorem Vh.key {v : V} {d : D} {k : Key} (h : Vh g F H v d) (e : D.key d = some k) : v = kV k := by
  rw [key_eq e] at h
  cases k with
  | inl i => exact h.int
  | inr s => exact h.str
end
def flatD : D → Bool
  | .non => true
  | .bl _ => true
  | .int _ => true
  | .str _ => true
  | _ => false
def eqf : D → D → Bool
  | .non, .non => true
  | .bl a, .bl b => a == b
  | .bl a, .int b => (if a then 1 else 0) == b
  | .int a, .bl b => a == (if b then 1 else 0)
  | .int a, .int b => a == b
  | .str a, .str b => a == b
  | _, _ => false
section
variable {g : Gx} {F H : Hp}
theorem rp_flat {v : V} {d : D} (h : Rp g F v d) (e : flatD d = true) : flatV v = true := by cases h <;> first | rfl | cases e
theorem rp_flats : ∀ {vs : List V} {ds : List D}, RpAll g F vs ds → ds.all flatD = true → vs.all flatV = true
  | _, _, .nil, _ => rfl
  | _, _, .cons h t, e => by
    rw [List.all_cons, Bool.and_eq_true] at e
    rw [List.all_cons, rp_flat h e.1, rp_flats t e.2]; rfl
theorem rp_eqf {v u : V} {d e : D} (h : Rp g F v d) (k : Rp g F u e) (f1 : flatD d = true) (f2 : flatD e = true) : eqV v u = eqf d e := by
  cases h <;> first | (cases f1; done) | (cases k <;> first | (cases f2; done) | rfl)
theorem rp_in {u : V} {e : D} (k : Rp g F u e) (f2 : flatD e = true) : ∀ {vs : List V} {ds : List D}, RpAll g F vs ds → ds.all flatD = true → inV u vs = ds.any fun y => eqf y e
  | _, _, .nil, _ => rfl
  | _, _, .cons h t, f => by
    rw [List.all_cons, Bool.and_eq_true] at f
    have ih := rp_in k f2 t f.2
    unfold inV at ih ⊢
    rw [List.any_cons, List.any_cons, rp_eqf h k f.1 f2, ih]
theorem Vh.flat {v : V} {d : D} (h : Vh g F H v d) (e : flatD d = true) : Rp g F v d := by
  cases h with
  | r h => exact h
  | l _ _ => cases e
  | dk _ _ _ => cases e
  | dt _ _ _ => cases e
end
def hasK {κ : Type} [DecidableEq κ] (kvs : List (κ × D)) (k : κ) : Bool := kvs.any fun p => decide (p.1 = k)
def getK {κ : Type} [DecidableEq κ] (kvs : List (κ × D)) (k : κ) : Option D := (kvs.find? fun p => decide (p.1 = k)).map (·.2)
def D.tkey : D → Option (List Key)
  | .tup l => if l.length = 2 then none else D.keys l
  | _ => none
def inD (x y : D) : Option Bool :=
  match y with
  | .lst l => if flatD x = true ∧ l.all flatD = true then some (l.any fun z => eqf z x) else if okq x = true ∧ okq (.lst l) = true then some (l.any fun z => eqd z x) else none
  | .tup l => if flatD x = true ∧ l.all flatD = true then some (l.any fun z => eqf z x) else none
  | .dk kvs => match D.key x with | some k => some (hasK kvs k) | none => none
  | .dt kvs => match D.tkey x with | some k => some (hasK kvs k) | none => none
  | .str s => match x with
    | .str c => match c.cps.toList with | [n] => some (decide (n ∈ s.cps.toList)) | _ => none
    | _ => none
  | _ => none
def oIn (x y : D) : Option T := match inD x y with | some b => some (.z (.bl b)) | none => none
def oNotIn (x y : D) : Option T := match inD x y with | some b => some (.z (.bl (!b))) | none => none
end Ar
/-! ArS: set(xs) of a list of ints, with its order kept (sorted behind it). -/
namespace Ar
open PySem PySem.Spec PyProof.Rows L2
abbrev sObj (w : World) : Obj := ⟨.type "set", none, .set #[] 0 (.fresh 0 0 (!w.params.followText "set-order")), #[]⟩
abbrev withSet (w : World) (h : Heap) : Heap := h.push (sObj w)
section
variable {P : Program} {w : World} {A : Around} {E : Value → Shared → Prop} {s : Shared}
theorem withSet_at (h : Heap) : (withSet w h).get? h.objs.size = some (sObj w) := Heap.get?_push_size h rfl
theorem withSet_sz (h : Heap) : (withSet w h).objs.size = h.objs.size + 1 := Heap.size_push h _
theorem item_int {its : Array Value} {ks : List Int} (r : PyProof.Rows.IntsAre its.toList ks) (z : its.size = ks.length) (i : Nat) (v : Value) (e : its[i]? = some v) : ∃ k t, ks[i]? = some k ∧ v = .int k t := by
  have lt : i < ks.length := z ▸ (Array.getElem?_eq_some_iff.mp e).1
  obtain ⟨t, rfl⟩ := PyProof.Rows.IntsAre.int_at r i v (by simpa using e)
  exact ⟨ks[i], t, List.getElem?_eq_getElem lt, by simp [List.getD_eq_getElem?_getD, List.getElem?_eq_getElem lt]⟩
/-- what set's __init__ does behind a list's iterator -/
theorem set_fill {p : Addr} {its : Array Value} (ks : List Int) (hh : A.in1.handled = none) (hl : s.heap.IsList p its) (r : PyProof.Rows.IntsAre its.toList ks) (hb : ks.length + 1 < scanBound)
    {R : Result → Shared → Prop}
    (h : ∀ (s' : Shared) (c : Nat), s'.gens = s.gens → s'.drawn = s.drawn → s'.os = s.os → SetR w s'.heap s.heap.objs.size (fun j => decide (j ∈ ks)) c → c ≤ ks.length →
      (∀ b o, s.heap.get? b = some o → s'.heap.get? b = some o) → R (.ok (.ret .none)) s') :
    codeAny (model P w) A (.builtin "set.update.loop" ⟨[.ref s.heap.objs.size, .ref (s.heap.objs.size + 1)], []⟩) R { s with heap := (withSet w s.heap).push ⟨.type "list_iterator", none, .fields #[.ref p, .int 0 0], #[]⟩ } := by
  have z : its.size = ks.length := by simpa using PyProof.Rows.IntsAre.length r
  have pl : p < s.heap.objs.size := by obtain ⟨_, e, _⟩ := hl; exact Heap.lt_size e
  have n1 : p ≠ s.heap.objs.size + 1 := Nat.ne_of_lt (Nat.lt_succ_of_lt pl)
  have free : s.heap.objs.size ∉ [s.heap.objs.size + 1, p] := by simp; exact Nat.ne_of_gt pl
  have at0 : ((withSet w s.heap).push ⟨.type "list_iterator", none, .fields #[.ref p, .int 0 0], #[]⟩).get? s.heap.objs.size = some (sObj w) := Heap.get?_push_of_some _ (withSet_at _)
  have it0 : ((withSet w s.heap).push ⟨.type "list_iterator", none, .fields #[.ref p, .int 0 0], #[]⟩).get? (s.heap.objs.size + 1) = some ⟨.type "list_iterator", none, .fields #[.ref p, .int 0 0], #[]⟩ := by
    have := Heap.get?_push_size (withSet w s.heap) (o := ⟨.type "list_iterator", none, .fields #[.ref p, .int 0 0], #[]⟩) rfl
    rwa [withSet_sz] at this
  refine set_update_ints (Walks.list hh _ p n1 its).toS s.heap.objs.size free ks z hb (item_int r z) (its.size - 0) 0 _ rfl (Nat.zero_le _) ⟨⟨_, it0, rfl, rfl⟩, (hl.push _).push _⟩ ⟨0, Nat.le_refl 0, setR_new_at at0⟩ ?_
  intro s' c m hc S
  refine h s' c m.gens m.drawn m.os S (z ▸ hc) fun b o e => ?_
  have lt : b < s.heap.objs.size := Heap.lt_size e
  refine m.heap b o ?_ (Heap.get?_push_of_some _ (Heap.get?_push_of_some _ e))
  simp
  exact ⟨Nat.ne_of_lt lt, Nat.ne_of_lt (Nat.lt_succ_of_lt lt)⟩
/-- set(xs), xs a list of ints -/
theorem set_of_list {p : Addr} {its : Array Value} (ks : List Int) {Q : Value → Shared → Prop} (hh : A.handled = none) (hl : s.heap.IsList p its) (r : PyProof.Rows.IntsAre its.toList ks) (hb : ks.length + 1 < scanBound)
    (h : ∀ (s' : Shared) (c : Nat), s'.gens = s.gens → s'.drawn = s.drawn → s'.os = s.os → SetR w s'.heap s.heap.objs.size (fun j => decide (j ∈ ks)) c → c ≤ ks.length →
      (∀ b o, s.heap.get? b = some o → s'.heap.get? b = some o) → Q (.ref s.heap.objs.size) s') :
    wpAny (model P w) A (call (.type "set") [.ref p]) Q E s := by
  have calledSet := PySem.F.called_set
  obtain ⟨cc, tl, mroSet⟩ := calledSet.mro
  have made := calledSet.made
  have sub := calledSet.sub
  have f1 := calledSet.notType
  have f2 := calledSet.canCreate
  have f3 := PySem.F.typeCall_set_1 (.ref p)
  refine wpAny_call (codeAny_of_tree (wpAny_pure ⟨Code.quiet_builtin _ (by decide +kernel), codeAny_builtin PySem.F.entry_type_call ?_⟩))
  rw [Around.under_plain (weight_type_call_type "set" [Value.ref p] ([] : List (Str × Value))) rfl]
  repeat (any_goals (first | assumption | wp_step))
  refine codeAny_mono (code_set_led1 (.ref p) (E := E) (Q₁ := fun v t => v = .ref s.heap.objs.size ∧ t = { s with heap := withSet w s.heap }) ⟨rfl, rfl⟩) fun res s1 hr => ?_
  rcases res with e | fl
  · exact hr
  · rcases fl with _ | _ | _ | v
    · exact hr.elim
    · exact hr.elim
    · exact hr.elim
    · obtain ⟨rfl, rfl⟩ := hr
      have there : (withSet w s.heap).get? s.heap.objs.size = some (sObj w) := withSet_at _
      have ty : Shared.TypeIs { s with heap := withSet w s.heap } (.ref s.heap.objs.size) "set" := ⟨_, there, rfl⟩
      have g1 := calledSet.init.lookup
      have g2 := calledSet.init.bind (.ref s.heap.objs.size)
      repeat (any_goals (first | assumption | wp_step))
      refine codeAny_mono (codeAny_call_builtin (R := wants (fun v s2 => v = .none ∧ ∃ c, s2.gens = s.gens ∧ s2.drawn = s.drawn ∧ s2.os = s.os ∧ SetR w s2.heap s.heap.objs.size (fun j => decide (j ∈ ks)) c ∧ c ≤ ks.length ∧
        ∀ b o, s.heap.get? b = some o → s2.heap.get? b = some o) E) calledSet.init.plain PySem.F.entry_set_init (PySem.check_set_init_1 ty ?_)) fun res2 s2 hr2 => ?_
      · have ll : (withSet w s.heap).IsList p its := hl.push _
        obtain ⟨ob, ho, hcl, nn, hd⟩ := ll
        obtain ⟨c0, d0, a0, sl0⟩ := ob
        simp only at hcl hd
        subst hcl hd
        have l2 : (withSet w s.heap).IsList p its := hl.push _
        have hsls := PySem.F.sub_list_set
        have hslf := PySem.F.sub_list_frozenset
        have hne : (Value.type "list" == Value.type "dict") = false := by decide
        unfold Builtin.«set.__init__» noKeywords Builtin.Frozenset.updateFrom
        generalize hPI : pyIter = PI
        wp_walk
        subst hPI
        refine wpAny_pyIter_list l2 (wpAny_bind (wpAny_runValue ?_))
        show codeAny _ _ (.builtin "set.update.loop" ⟨[.ref s.heap.objs.size, .ref (withSet w s.heap).objs.size], []⟩) _ _
        rw [withSet_sz]
        refine set_fill (A := A.in1.in1) ks (by simp [hh]) hl r hb fun s2 c q1 q2 q3 q4 q5 q6 => ?_
        exact wpAny_pure (wpAny_pure ⟨rfl, c, q1, q2, q3, q4, q5, q6⟩)
      · rcases res2 with e | fl2
        · exact hr2
        · rcases fl2 with _ | _ | _ | v2
          · exact hr2.elim
          · exact hr2.elim
          · exact hr2.elim
          · obtain ⟨rfl, c, q1, q2, q3, q4, q5, q6⟩ := hr2
            repeat (any_goals (first | assumption | wp_step))
            exact h s2 c q1 q2 q3 q4 q5 q6
end
end Ar
/-! ArC: further operations on data: in, subscripts, the built-in functions. -/
namespace Ar
open PySem PySem.Spec PyProof.Rows L2

def Call1 (g : Gx) (r : List V → Hp → VK → Prop) (f : D → Option T) : Prop := ∀ F H x dx t Q, Same F H → Vh g F H x dx → f dx = some t → Out g F H t Q → r [x] H Q
def Call2 (g : Gx) (r : List V → Hp → VK → Prop) (f : D → D → Option T) : Prop := ∀ F H x y dx dy t Q, Same F H → Vh g F H x dx → Vh g F H y dy → f dx dy = some t → Out g F H t Q → r [x, y] H Q

theorem dget_k {H : Hp} {a : Addr} {kvs : List (Key × V)} {k : Key} (e : Rd H a (.dK kvs)) : DGet H a (kV k) (valV kvs k) := .inl ⟨kvs, k, e, rfl, rfl⟩
theorem dget_t {H : Hp} {a b : Addr} {kvs : List (List Key × V)} {k : List Key} (e : Rd H a (.dT kvs)) (eb : H b = some (.tup (k.map kV))) : DGet H a (.ref b) (valV kvs k) := .inr ⟨kvs, k, b, e, rfl, eb, rfl⟩
/-! ### in -/
def rDIn (neg : Bool) : R2 := fun x y H Q => ∃ a o, y = .ref a ∧ DGet H a x o ∧ Q (.bl (if neg then !o.isSome else o.isSome)) H
section
variable {X : Cx}
theorem op_dIn (hu : X.A.units + 1 < cLine) : OpR X (compareOp .In) (rDIn false) := by
  intro pins s σ H x y v u Q I rx ry h
  obtain ⟨a, o, rfl, d, q⟩ := h
  cases ry
  exact d_in hu I d rx fun s2 I2 => ⟨.bl o.isSome, H, I2, rfl, q⟩
theorem op_dNotIn (hu : X.A.units + 1 < cLine) : OpR X (compareOp .NotIn) (rDIn true) := by
  intro pins s σ H x y v u Q I rx ry h
  obtain ⟨a, o, rfl, d, q⟩ := h
  cases ry
  exact d_notIn hu I d rx fun s2 I2 => ⟨.bl (!o.isSome), H, I2, rfl, q⟩
def rSgn (neg : Bool) : R2 := fun x y H Q => ∃ (c : Nat) (z : Str), x = .str ⟨#[c]⟩ ∧ y = .str z ∧ Q (.bl (if neg then !decide (c ∈ z.cps.toList) else decide (c ∈ z.cps.toList))) H
def rDeep (K : PySem.W.Frag) (neg : Bool) : R2 := fun x y H Q => ∃ d ds, Dp K H x d ∧ Dp K H y (.list ds) ∧ SeqAt.shaped d = true ∧ SeqAt.shaped (.list ds) = true ∧ Q (.bl (if neg then !(ds.any fun z => PyData.eqv z d) else ds.any fun z => PyData.eqv z d)) H
def rInAll (K : PySem.W.Frag) (neg : Bool) : R2 := fun x y H Q => ((rIn K neg x y H Q ∨ rDeep K neg x y H Q) ∨ rDIn neg x y H Q) ∨ rSgn neg x y H Q
theorem op_inAll (hu : X.A.units + 65 < cLine) : OpR X (compareOp .In) (rInAll X.K false) :=
  ((op_in_seq.or (op_inD hu)).or (op_dIn (by omega))).or op_in_sign
theorem op_notInAll (hu : X.A.units + 65 < cLine) : OpR X (compareOp .NotIn) (rInAll X.K true) :=
  ((op_notIn_seq.or (op_notInD hu)).or (op_dNotIn (by omega))).or op_notIn_sign
end
section
variable {g : Gx} {F H : Hp}
theorem py_any {x : D} {px : PyData} (ex : D.py x = some px) : ∀ {l : List D} {pl : List PyData}, D.pys l = some pl → (l.any fun z => eqd z x) = pl.any fun z => PyData.eqv z px
  | [], _, e => by rw [D.pys] at e; cases e; rfl
  | d :: r, _, e => by
    rw [D.pys] at e
    cases q1 : D.py d with
    | none => rw [q1] at e; cases e
    | some a =>
      cases q2 : D.pys r with
      | none => rw [q1, q2] at e; cases e
      | some b =>
        rw [q1, q2] at e; cases e
        rw [List.any_cons, List.any_cons, py_any ex q2]
        unfold eqd pyD
        rw [q1, ex]
theorem val_getK {κ : Type} [DecidableEq κ] : ∀ {kvs : List (κ × V)} {ds : List (κ × D)}, kvs.map (·.1) = ds.map (·.1) → RpAll g F (kvs.map (·.2)) (ds.map (·.2)) → ∀ k : κ,
    (getK ds k = none ∧ valV kvs k = none) ∨ ∃ d v, getK ds k = some d ∧ valV kvs k = some v ∧ Rp g F v d
  | [], [], _, _, k => .inl ⟨rfl, rfl⟩
  | (a, v) :: kvs, (b, d) :: ds, e, r, k => by
    rw [List.map_cons, List.map_cons] at e r
    injection e with e1 e2
    simp only at e1
    subst e1
    cases r with
    | cons h t =>
      by_cases q : a = k
      · refine .inr ⟨d, v, ?_, ?_, h⟩
        · simp [getK, List.find?_cons, q]
        · simp [valV, List.find?_cons, q]
      · have := val_getK e2 t k
        simp only [getK, valV, List.find?_cons, q, decide_false] at this ⊢
        exact this
  | [], _ :: _, e, _, _ => by cases e
  | _ :: _, [], e, _, _ => by cases e
theorem has_getK {κ : Type} [DecidableEq κ] (ds : List (κ × D)) (k : κ) : hasK ds k = (getK ds k).isSome := by
  unfold hasK getK
  induction ds with
  | nil => rfl
  | cons p r ih =>
    rw [List.any_cons, List.find?_cons]
    by_cases q : p.1 = k
    · simp [q]
    · simp only [q, decide_false, Bool.false_or]; exact ih
theorem Vh.tkey {v : V} {d : D} {k : List Key} (s : Same F H) (h : Vh g F H v d) (e : D.tkey d = some k) : ∃ b, v = .ref b ∧ H b = some (.tup (k.map kV)) := by
  cases d with
  | tup l =>
    have e : (if l.length = 2 then none else D.keys l) = some k := e
    by_cases nl : l.length = 2
    · rw [if_pos nl] at e; cases e
    rw [if_neg nl] at e
    obtain ⟨b, xs, rfl, hb, rb⟩ := h.tupH s nl
    rw [keys_eq e] at rb
    exact ⟨b, rfl, by rw [hb, rp_keys rb]⟩
  | _ => cases e
theorem inAll (neg : Bool) {x y : V} {dx dy : D} {b : Bool} {Q : VK} (s : Same F H) (hx : Vh g F H x dx) (hy : Vh g F H y dy) (e : inD dx dy = some b) (q : Q (.bl (if neg then !b else b)) H) : rInAll g.K neg x y H Q := by
  unfold inD at e
  split at e
  · rename_i l
    split at e
    · rename_i h
      cases e
      obtain ⟨a, xs, rfl, ha, ra⟩ := hy.lst s
      refine .inl (.inl (.inl ⟨a, xs, rfl, .inl (.of ha), rp_flat (hx.flat h.1) h.1, rp_flats ra h.2, ?_⟩))
      rw [rp_in (hx.flat h.1) h.1 ra h.2]; exact q
    · split at e
      · rename_i h
        cases e
        obtain ⟨e1, s1⟩ := okq_py h.1
        obtain ⟨e2, s2⟩ := okq_py h.2
        have e3 := e2
        rw [D.py] at e3
        cases q2 : D.pys l with
        | none => rw [q2] at e3; cases e3
        | some pl =>
          rw [q2] at e3
          have e4 : pyD (.lst l) = .list pl := (Option.some.inj e3).symm
          rw [e4] at e2 s2
          refine .inl (.inl (.inr ⟨_, _, hx.dp s e1, hy.dp s e2, s1, s2, ?_⟩))
          rw [← py_any e1 q2]; exact q
      · cases e
  · split at e
    · rename_i l h
      cases e
      obtain ⟨a, xs, rfl, ha, ra⟩ := hy.tup s
      refine .inl (.inl (.inl ⟨a, xs, rfl, .inr ha, rp_flat (hx.flat h.1) h.1, rp_flats ra h.2, ?_⟩))
      rw [rp_in (hx.flat h.1) h.1 ra h.2]; exact q
    · cases e
  · split at e
    · rename_i kvs k hk
      cases e
      obtain ⟨a, vs, rfl, ha, ka, ra⟩ := hy.dkO s
      cases hx.key hk
      refine .inl (.inr ⟨a, _, rfl, dget_k ha, ?_⟩)
      rw [has_getK] at q
      rcases val_getK ka ra k with ⟨h1, h2⟩ | ⟨d, v, h1, h2, _⟩
      · rw [h2]; rw [h1] at q; exact q
      · rw [h2]; rw [h1] at q; exact q
    · cases e
  · split at e
    · rename_i kvs k hk
      cases e
      obtain ⟨a, vs, rfl, ha, ka, ra⟩ := hy.dtO s
      obtain ⟨b, rfl, hb⟩ := hx.tkey s hk
      refine .inl (.inr ⟨a, _, rfl, dget_t ha hb, ?_⟩)
      rw [has_getK] at q
      rcases val_getK ka ra k with ⟨h1, h2⟩ | ⟨d, v, h1, h2, _⟩
      · rw [h2]; rw [h1] at q; exact q
      · rw [h2]; rw [h1] at q; exact q
    · cases e
  · split at e
    · rename_i s0 _ c
      split at e
      · rename_i n hn
        cases e
        cases hx.str; cases hy.str
        refine .inr ⟨n, s0, ?_, rfl, q⟩
        obtain ⟨cps⟩ := c
        obtain ⟨l⟩ := cps
        have : l = [n] := hn
        rw [this]
      · cases e
    · cases e
  · cases e
theorem opIn : Op2 g (rInAll g.K false) oIn := by
  intro F H x y dx dy t Q s hx hy e q
  unfold oIn at e
  split at e
  · rename_i b hb; cases e; exact inAll false s hx hy hb (q.val (.bl _))
  · cases e
theorem opNotIn : Op2 g (rInAll g.K true) oNotIn := by
  intro F H x y dx dy t Q s hx hy e q
  unfold oNotIn at e
  split at e
  · rename_i b hb; cases e; exact inAll true s hx hy hb (q.val (.bl _))
  · cases e
end
/-! ### subscripts -/
def rDIx : R2 := fun x y H Q => ∃ a v, x = .ref a ∧ DGet H a y (some v) ∧ Q v H
theorem ix_dict {X : Cx} (hu : X.A.units + 1 < cLine) : IxR X rDIx := by
  intro value slice pins s σ H x y v u Q I rx ry h hs
  obtain ⟨a, w, rfl, d, q⟩ := h
  cases rx
  exact tail_any (dict_typeIs I d) PySem.F.slot_dict_getitem.lookup (d_getItem hu I d ry fun w' s' I' r' => ⟨w, H, I', r', q⟩) hs
def rIxAll (K : PySem.W.Frag) : R2 := fun x y H Q => (rIxL K x y H Q ∨ rIxT K x y H Q ∨ rIxS x y H Q) ∨ rDIx x y H Q
theorem ix_all {X : Cx} (hu : X.A.units + 1 < cLine) : IxR X (rIxAll X.K) := ix_seq.or (ix_dict hu)
def oIx (x y : D) : Option T :=
  match x with
  | .lst l => match y with | .int i => (atI l i).map .z | _ => none
  | .tup l => match y with | .int i => (atI l i).map .z | _ => none
  | .str s => match y with | .int i => if s.length ≤ lim then (atI s.cps.toList i).map fun c => .z (.str ⟨#[c]⟩) else none | _ => none
  | .dk kvs => match D.key y with | some k => (getK kvs k).map .z | none => none
  | .dt kvs => match D.tkey y with | some k => (getK kvs k).map .z | none => none
  | _ => none
section
variable {g : Gx} {F H : Hp}
theorem at_rp {xs : List V} {ds : List D} {i : Int} {d : D} (r : RpAll g F xs ds) (e : atI ds i = some d) : ∃ v, atI xs i = some v ∧ Rp g F v d := by
  unfold atI at e ⊢
  rw [r.length]
  cases q : ixN ds.length i with
  | none => rw [q] at e; cases e
  | some j =>
    rw [q] at e
    obtain ⟨v, h1, h2⟩ := r.get (i := j) e
    exact ⟨v, h1, h2⟩
theorem opIx : Op2 g (rIxAll g.K) oIx := by
  intro F H x y dx dy t Q s hx hy e q
  unfold oIx at e
  split at e
  · split at e
    · rename_i l _ i
      cases ea : atI l i with
      | none => rw [ea] at e; cases e
      | some d =>
        rw [ea] at e; cases e
        obtain ⟨a, xs, rfl, ha, ra⟩ := hx.lst s
        cases hy.int
        obtain ⟨v, h1, h2⟩ := at_rp ra ea
        exact .inl (.inl ⟨a, xs, i, v, rfl, rfl, .of ha, h1, q.val h2⟩)
    · cases e
  · split at e
    · rename_i l _ i
      cases ea : atI l i with
      | none => rw [ea] at e; cases e
      | some d =>
        rw [ea] at e; cases e
        obtain ⟨a, xs, rfl, ha, ra⟩ := hx.tup s
        cases hy.int
        obtain ⟨v, h1, h2⟩ := at_rp ra ea
        exact .inl (.inr (.inl ⟨a, xs, i, v, rfl, rfl, ha, h1, q.val h2⟩))
    · cases e
  · split at e
    · rename_i l _ i
      split at e
      · rename_i hl
        cases ea : atI l.cps.toList i with
        | none => rw [ea] at e; cases e
        | some d =>
          rw [ea] at e; cases e
          cases hx.str; cases hy.int
          exact .inl (.inr (.inr ⟨l, i, d, rfl, rfl, lim_le hl, ea, q.val (.str _)⟩))
      · cases e
    · cases e
  · split at e
    · rename_i kvs _ k hk
      cases ea : getK kvs k with
      | none => rw [ea] at e; cases e
      | some d =>
        rw [ea] at e; cases e
        obtain ⟨a, vs, rfl, ha, ka, ra⟩ := hx.dkO s
        cases hy.key hk
        rcases val_getK ka ra k with ⟨h1, _⟩ | ⟨d', v, h1, h2, h3⟩
        · rw [h1] at ea; cases ea
        · rw [h1] at ea; cases ea
          refine .inr ⟨a, v, rfl, ?_, q.val h3⟩
          rw [← h2]; exact dget_k ha
    · cases e
  · split at e
    · rename_i kvs _ k hk
      cases ea : getK kvs k with
      | none => rw [ea] at e; cases e
      | some d =>
        rw [ea] at e; cases e
        obtain ⟨a, vs, rfl, ha, ka, ra⟩ := hx.dtO s
        obtain ⟨b, rfl, hb⟩ := hy.tkey s hk
        rcases val_getK ka ra k with ⟨h1, _⟩ | ⟨d', v, h1, h2, h3⟩
        · rw [h1] at ea; cases ea
        · rw [h1] at ea; cases ea
          refine .inr ⟨a, v, rfl, ?_, q.val h3⟩
          rw [← h2]; exact dget_t ha hb
    · cases e
  · cases e
end
/-! ### slices -/
def cutD {α : Type} (xs : List α) (lo hi : Option Int) : List α := (xs.drop (HT.sIx xs.length 0 lo)).take (HT.sIx xs.length xs.length hi - HT.sIx xs.length 0 lo)
def oSl (x : D) (lo hi : Option Int) : Option T :=
  match x with
  | .lst l => some (.l ((cutD l lo hi).map .z))
  | .scr l => some (.l ((cutD l lo hi).map fun i => .z (.int i)))
  | .tup l => if HT.sIx l.length 0 lo = 0 ∧ HT.sIx l.length l.length hi = l.length then none else some (.z (.tup (cutD l lo hi)))
  | .str s => if s.length ≤ lim then some (.z (.str (cutS s lo hi))) else none
  | _ => none
def rSlAll (K : PySem.W.Frag) : V → Option Int → Option Int → Hp → VK → Prop := fun x lo hi H Q => (rSlL K x lo hi H Q ∨ rSlT K x lo hi H Q) ∨ rSlS x lo hi H Q
theorem sl_all {X : Cx} : SlR X (rSlAll X.K) := (sl_list.or sl_tup).or sl_str
section
variable {g : Gx} {F H : Hp}
theorem cut_rp {xs : List V} {ds : List D} (lo hi : Option Int) (r : RpAll g F xs ds) : RpAll g F (cutV xs lo hi) (cutD ds lo hi) := by
  unfold cutV cutD
  rw [r.length]
  exact (r.drop _).take _
theorem cut_map {α β : Type} (f : α → β) (xs : List α) (lo hi : Option Int) : cutD (xs.map f) lo hi = (cutD xs lo hi).map f := by
  unfold cutD
  rw [List.length_map, List.map_take, List.map_drop]
theorem opSl (lo hi : Option Int) : Op1 g (fun x H Q => rSlAll g.K x lo hi H Q) (fun x => oSl x lo hi) := by
  intro F H x dx t Q s hx e q
  simp only at e
  unfold oSl at e
  split at e
  · cases e
    obtain ⟨a, xs, rfl, ha, ra⟩ := hx.lst s
    exact .inl (.inl ⟨a, xs, rfl, .of ha, q.new (cut_rp lo hi ra)⟩)
  · rename_i l
    cases e
    obtain ⟨a, rfl, ha⟩ := hx.scr s
    refine .inl (.inl ⟨a, l.map V.int, rfl, ha, ?_⟩)
    have e2 : (cutD l lo hi).map (fun i => T.z (.int i)) = ((cutD l lo hi).map D.int).map T.z := by rw [List.map_map]; rfl
    rw [e2] at q
    refine q.new ?_
    show RpAll g F (cutD (l.map V.int) lo hi) _
    rw [cut_map]
    exact RpAll.ints _
  · split at e
    · cases e
    · rename_i h
      cases e
      obtain ⟨a, xs, rfl, ha, ra⟩ := hx.tup s
      refine .inl (.inr ⟨a, xs, rfl, ha, ?_, q.newT s (cut_rp lo hi ra)⟩)
      rw [ra.length]; exact h
  · split at e
    · rename_i h; cases e; cases hx.str
      exact .inr ⟨_, rfl, lim_le h, q.val (.str _)⟩
    · cases e
  · cases e
end
/-! ### the built-in functions of one thing -/
def isort : List Int → List Int
  | [] => []
  | x :: r => ins x (isort r)
where ins (x : Int) : List Int → List Int
  | [] => [x]
  | y :: r => if x ≤ y then x :: y :: r else y :: ins x r
def ddp : List Int → List Int
  | [] => []
  | x :: r => x :: (ddp r).filter fun y => decide (y ≠ x)
theorem ins_perm (x : Int) : ∀ l : List Int, (isort.ins x l).Perm (x :: l)
  | [] => List.Perm.refl _
  | y :: r => by
    unfold isort.ins
    split
    · exact List.Perm.refl _
    · exact ((ins_perm x r).cons y).trans (List.Perm.swap x y r)
theorem isort_perm : ∀ l : List Int, (isort l).Perm l
  | [] => List.Perm.refl _
  | x :: r => (ins_perm x (isort r)).trans ((isort_perm r).cons x)
theorem ins_sorted (x : Int) : ∀ {l : List Int}, l.Pairwise (· ≤ ·) → (isort.ins x l).Pairwise (· ≤ ·)
  | [], _ => List.pairwise_singleton _ _
  | y :: r, h => by
    unfold isort.ins
    have h' := List.pairwise_cons.mp h
    split
    · rename_i hxy
      refine List.pairwise_cons.mpr ⟨fun z hz => ?_, h⟩
      rcases List.mem_cons.mp hz with rfl | hz
      · exact hxy
      · have := h'.1 z hz; omega
    · rename_i hxy
      refine List.pairwise_cons.mpr ⟨fun z hz => ?_, ins_sorted x h'.2⟩
      rcases List.mem_cons.mp ((ins_perm x r).mem_iff.mp hz) with rfl | hz
      · omega
      · exact h'.1 z hz
theorem isort_sorted : ∀ l : List Int, (isort l).Pairwise (· ≤ ·)
  | [] => List.Pairwise.nil
  | x :: r => ins_sorted x (isort_sorted r)
theorem sort_unique {l m : List Int} (p : l.Perm m) (h : l.Pairwise (· ≤ ·)) : l = isort m := PySem.W.ksm_same (p.trans (isort_perm m).symm) h (isort_sorted m)
theorem mem_ddp {x : Int} : ∀ {l : List Int}, x ∈ ddp l ↔ x ∈ l
  | [] => Iff.rfl
  | y :: r => by
    rw [ddp, List.mem_cons, List.mem_cons, List.mem_filter, mem_ddp]
    by_cases h : x = y <;> simp [h]
theorem ddp_nodup : ∀ l : List Int, (ddp l).Nodup
  | [] => List.nodup_nil
  | y :: r => by
    rw [ddp, List.nodup_cons]
    exact ⟨by simp [List.mem_filter], (ddp_nodup r).filter _⟩
theorem ddp_length : ∀ l : List Int, (ddp l).length ≤ l.length
  | [] => Nat.le_refl _
  | y :: r => by
    rw [ddp, List.length_cons, List.length_cons]
    have := List.length_filter_le (fun z => decide (z ≠ y)) (ddp r)
    have := ddp_length r
    omega
theorem perm_of_mem {l m : List Int} (hl : l.Nodup) (hm : m.Nodup) (h : ∀ x, x ∈ l ↔ x ∈ m) : l.Perm m := (List.perm_ext_iff_of_nodup hl hm).mpr h
/-- set(xs) -/
def rSetI (K : PySem.W.Frag) (w : World) : List V → Hp → VK → Prop := fun vs H Q => ∃ (a : Addr) (ns : List Int), vs = [V.ref a] ∧ SqL K H a (ns.map V.int) ∧ ns.length < 4000 ∧
  ∀ p, H p = none → Q (.ref p) (upd H p (SetO w p (fun j => decide (j ∈ ns)) (ddp ns).length))
theorem SetR.count {w : World} {h : Heap} {a : Addr} {S : Int → Bool} {n : Nat} (R : SetR w h a S n) {l : List Int} (nd : l.Nodup) (m : ∀ k, k ∈ l ↔ S k = true) : n = l.length := by
  obtain ⟨o, es, ep, t, _, _, _, _, nd2, m2, _, _, hn, _⟩ := R
  have p : (es.toList.map keyOf).Perm l := perm_of_mem nd2 nd fun k => by rw [m k, m2 k]
  have := p.length_eq
  rw [List.length_map, Array.length_toList] at this
  rw [← hn]; exact this
end Ar
/-! ArD: the built-in functions and types, called. -/
namespace Ar
open PySem PySem.Spec PyProof.Rows L2
section
variable {X : Cx}
theorem cr_setI (hc : X.calm = true) : CallR X (.type "set") (rSetI X.K X.w) := by
  intro pins s σ H vs us Q I r h
  obtain ⟨a, ns, rfl, hs, hl, q⟩ := h
  obtain ⟨its, rv, li, hz⟩ := I.list hs
  rw [Vals.ref1 r]
  refine set_of_list ns (I.ok.hd hc) li.isList (by simpa using rv.ints) (by unfold scanBound; omega) fun s' c g1 g2 g3 S hc' k => ?_
  obtain ⟨h', g', d', t', o'⟩ := s'
  simp only at g1 g2 g3 k S
  subst g1 g2 g3
  have fr : H s.heap.objs.size = none := I.fresh
  have ec : c = (ddp ns).length := SetR.count S (ddp_nodup ns) fun k => by rw [mem_ddp]; simp
  subst ec
  exact ⟨.ref _, _, I.laid (a := s.heap.objs.size) (o := SetO X.w s.heap.objs.size (fun j => decide (j ∈ ns)) (ddp ns).length) (t' := t') k (Nat.le_refl _) (setO_new S), rfl, q _ fr⟩
def rSetIT (K : PySem.W.Frag) (w : World) : List V → Hp → VK → Prop := fun vs H Q => ∃ (a : Addr) (ns : List Int), vs = [V.ref a] ∧ SqT K H a (ns.map V.int) ∧ ns.length < 4000 ∧
  ∀ p, H p = none → Q (.ref p) (upd H p (SetO w p (fun j => decide (j ∈ ns)) (ddp ns).length))
theorem cr_setIT (hc : X.calm = true) : CallR X (.type "set") (rSetIT X.K X.w) := by
  intro pins s σ H vs us Q I r h
  obtain ⟨a, ns, rfl, hs, hl, q⟩ := h
  obtain ⟨its, rv, li, hz⟩ := I.tuple hs
  rw [Vals.ref1 r]
  refine call_set_tupI ns (I.ok.hd hc) li (by simpa using rv.ints) (by unfold scanBound; omega) fun h' t' c S hc' k => ?_
  have fr : H s.heap.objs.size = none := I.fresh
  have ec : c = (ddp ns).length := SetR.count S (ddp_nodup ns) fun k => by rw [mem_ddp]; simp
  subst ec
  exact ⟨.ref _, _, I.laid (a := s.heap.objs.size) (o := SetO X.w s.heap.objs.size (fun j => decide (j ∈ ns)) (ddp ns).length) (t' := t') k (Nat.le_refl _) (setO_new S), rfl, q _ fr⟩
/-- len of a set -/
theorem call_lenSt : CallR X (.builtin "len") (fun xs H Q => ∃ a S n, xs = [V.ref a] ∧ H a = some (SetO X.w a S n) ∧ n < 4000 ∧ Q (.int n) H) := by
  intro pins s σ H xs us Q I r h
  obtain ⟨a, S, n, rfl, ha, hn, q⟩ := h
  obtain ⟨u, rfl, ru⟩ := vals1 r
  cases ru
  obtain ⟨o, es, ep, t, ho, hex, hd, _, _, _, _, hf, hsz, _⟩ := setO_get I ha
  refine call_len_set ho hex hd hf (by omega) ?_
  refine ⟨.int n, H, I.tok _, ⟨s.toks + 1, ?_⟩, q⟩
  rw [hsz]
/-- len of a dict, locked or not -/
theorem call_lenDR : CallR X (.builtin "len") (fun xs H Q => ∃ a kvs, xs = [V.ref a] ∧ Rd H a (.dK kvs) ∧ Q (.int kvs.length) H) := by
  intro pins s σ H xs us Q I r h
  obtain ⟨a, kvs, rfl, ha, q⟩ := h
  obtain ⟨u, e, ru⟩ := vals1 r
  subst e
  cases ru
  exact d_len I ha fun t s1 I1 => ⟨.int kvs.length, H, I1, ⟨t, rfl⟩, q⟩
def rLenAll (K : PySem.W.Frag) (w : World) : List V → Hp → VK → Prop := fun xs H Q => ((∃ x n, xs = [x] ∧ LenV K x H n ∧ Q (.int n) H) ∨ (∃ a kvs, xs = [V.ref a] ∧ Rd H a (.dK kvs) ∧ Q (.int kvs.length) H)) ∨
  ∃ a S n, xs = [V.ref a] ∧ H a = some (SetO w a S n) ∧ n < 4000 ∧ Q (.int n) H
theorem call_lenAll : CallR X (.builtin "len") (rLenAll X.K X.w) := (call_len.or call_lenDR).or call_lenSt
end
def oLen : D → Option T
  | .str s => if s.length ≤ lim then some (.z (.int s.length)) else none
  | .lst l => some (.z (.int l.length))
  | .tup l => some (.z (.int l.length))
  | .scr l => some (.z (.int l.length))
  | .dk l => some (.z (.int l.length))
  | .st l => if l.length < 4000 then some (.z (.int l.length)) else none
  | _ => none
def oSorted : D → Option T
  | .lst l => match intsD l with | some ns => some (.l ((isort ns).map fun i => .z (.int i))) | none => none
  | .st l => if l.length < 64 then some (.l ((isort l).map fun i => .z (.int i))) else none
  | _ => none
def oSet : D → Option T
  | .lst l => match intsD l with | some ns => if ns.length < 4000 then some (.z (.st (ddp ns))) else none | none => none
  | .tup l => match intsD l with | some ns => if ns.length < 4000 then some (.z (.st (ddp ns))) else none | none => none
  | _ => none
def oList : D → Option T
  | .lst l => some (.l (l.map .z))
  | .tup l => some (.l (l.map .z))
  | .dk l => some (.l (l.map fun p => .z (kD p.1)))
  | _ => none
def oTuple : D → Option T
  | .lst l => some (.z (.tup l))
  | .tup l => some (.z (.tup l))
  | _ => none
def oSum : D → Option T
  | .lst l => match intsD l with | some ns => some (.z (.int ns.sum)) | none => none
  | .tup l => match intsD l with | some ns => some (.z (.int ns.sum)) | none => none
  | _ => none
def toB : D → Option Bool
  | .bl b => some b
  | _ => none
def blsD : List D → Option (List Bool)
  | [] => some []
  | d :: r => match toB d, blsD r with | some i, some l => some (i :: l) | _, _ => none
theorem toB_eq {d : D} {i : Bool} (e : toB d = some i) : d = .bl i := by cases d <;> first | (cases e; rfl) | cases e
theorem bls_eq : ∀ {ds : List D} {ns : List Bool}, blsD ds = some ns → ds = ns.map D.bl
  | [], ns, e => by cases e; rfl
  | d :: r, ns, e => by
    rw [blsD] at e
    cases q1 : toB d with
    | none => rw [q1] at e; cases e
    | some k =>
      cases q2 : blsD r with
      | none => rw [q1, q2] at e; cases e
      | some l => rw [q1, q2] at e; cases e; rw [toB_eq q1, bls_eq q2]; rfl
def oAll : D → Option T
  | .lst l => match blsD l with | some ns => some (.z (.bl (ns.all id))) | none => none
  | _ => none
def oAny : D → Option T
  | .lst l => match blsD l with | some ns => some (.z (.bl (ns.any id))) | none => none
  | _ => none
def oAbs : D → Option T
  | .int i => some (.z (.int (if i < 0 then -i else i)))
  | _ => none
def oInt : D → Option T
  | .int i => some (.z (.int i))
  | .bl b => some (.z (.int (if b then 1 else 0)))
  | .str s => if s.length ≤ 640 then match PySem.intText? s with | some n => some (.z (.int n)) | none => none else none
  | _ => none
def oStr : D → Option T
  | .int i => if i.natAbs < bigS then some (.z (.str (toString i))) else none
  | _ => none
where bigS : Nat := 2 ^ 1900
def oMin2 : D → D → Option T
  | .int i, .int j => some (.z (.int (if j < i then j else i)))
  | _, _ => none
def oMax2 : D → D → Option T
  | .int i, .int j => some (.z (.int (if j > i then j else i)))
  | _, _ => none
def oNeg : D → Option T
  | .int i => some (.z (.int (-i)))
  | _ => none
section
variable {g : Gx} {F H : Hp}
theorem opLen : Call1 g (rLenAll g.K g.w) oLen := by
  intro F H x dx t Q s hx e q
  unfold oLen at e
  split at e
  · split at e
    · rename_i h; cases e; cases hx.str; exact .inl (.inl ⟨_, _, rfl, ⟨lim_le h, rfl⟩, q.val (.int _)⟩)
    · cases e
  · cases e
    obtain ⟨a, xs, rfl, ha, ra⟩ := hx.lst s
    exact .inl (.inl ⟨_, _, rfl, .inl ⟨xs, .of ha, ra.length.symm⟩, q.val (.int _)⟩)
  · cases e
    obtain ⟨a, xs, rfl, ha, ra⟩ := hx.tup s
    exact .inl (.inl ⟨_, _, rfl, .inr ⟨xs, ha, ra.length.symm⟩, q.val (.int _)⟩)
  · rename_i l
    cases e
    obtain ⟨a, rfl, ha⟩ := hx.scr s
    exact .inl (.inl ⟨_, l.length, rfl, .inl ⟨_, ha, (List.length_map ..).symm⟩, q.val (.int _)⟩)
  · rename_i l
    cases e
    obtain ⟨a, kvs, rfl, ha, k, ra⟩ := hx.dkO s
    have e1 : kvs.length = l.length := by rw [← List.length_map (f := (·.1)), k, List.length_map]
    refine .inl (.inr ⟨a, kvs, rfl, ha, ?_⟩)
    rw [e1]; exact q.val (.int _)
  · split at e
    · rename_i h; cases e
      obtain ⟨a, S, rfl, ha, _, _⟩ := hx.st s
      exact .inr ⟨a, S, _, rfl, ha, h, q.val (.int _)⟩
    · cases e
  · cases e
theorem map_zint (l : List Int) : (l.map fun i => T.z (.int i)) = (l.map D.int).map T.z := by rw [List.map_map]; rfl
def rSortAll (K : PySem.W.Frag) (w : World) : List V → Hp → VK → Prop := fun vs H Q => rSortedI K vs H Q ∨ rSortedSet w vs H Q
theorem cr_sortAll {X : Cx} (hc : X.calm = true) : CallR X (.builtin "sorted") (rSortAll X.K X.w) := cr_sortedI.or (cr_sortedSet hc)
theorem opSorted : Call1 g (rSortAll g.K g.w) oSorted := by
  intro F H x dx t Q s hx e q
  unfold oSorted at e
  split at e
  · split at e
    · rename_i ns hn
      cases e
      obtain ⟨a, xs, rfl, ha, ra⟩ := hx.lst s
      rw [ints_eq hn] at ra
      rw [ra.ints_inv] at ha
      refine .inl ⟨a, ns, rfl, .of ha, fun ns' p h1 h2 hp => ?_⟩
      rw [sort_unique h1 h2]
      rw [map_zint] at q
      exact q.new (RpAll.ints _) p hp
    · cases e
  · split at e
    · rename_i l h
      cases e
      obtain ⟨a, S, rfl, ha, hm, nd⟩ := hx.st s
      refine .inr ⟨a, S, _, rfl, ha, h, fun ns p h1 h2 h3 hp => ?_⟩
      have le : ns.Pairwise (· ≤ ·) := h1.imp fun h => Int.le_of_lt h
      have nd2 : ns.Nodup := h1.imp fun h e => by subst e; exact absurd h (Int.lt_irrefl _)
      rw [sort_unique (perm_of_mem nd2 nd fun k => (h2 k).trans (hm k).symm) le]
      rw [map_zint] at q
      exact q.new (RpAll.ints _) p hp
    · cases e
  · cases e
theorem opList {X : Cx} : Call1 g (fun xs H Q => (∃ p ys, xs = [.ref p] ∧ (SqL g.K H p ys ∨ SqT g.K H p ys) ∧ ∀ l, H l = none → Q (.ref l) (upd H l (.lst ys))) ∨
    (∃ (a : Addr) (kvs : List (Key × V)), xs = [.ref a] ∧ Rd H a (.dK kvs) ∧ ∀ p, H p = none → Q (.ref p) (upd H p (.lst (kvs.map fun kv => kV kv.1))))) oList := by
  intro F H x dx t Q s hx e q
  unfold oList at e
  split at e
  · cases e
    obtain ⟨a, xs, rfl, ha, ra⟩ := hx.lst s
    exact .inl ⟨a, xs, rfl, .inl (.of ha), q.new ra⟩
  · cases e
    obtain ⟨a, xs, rfl, ha, ra⟩ := hx.tup s
    exact .inl ⟨a, xs, rfl, .inr ha, q.new ra⟩
  · rename_i l
    cases e
    obtain ⟨a, kvs, rfl, ha, k, ra⟩ := hx.dkO s
    refine .inr ⟨a, kvs, rfl, ha, ?_⟩
    have e2 : (l.map fun p => T.z (kD p.1)) = ((l.map (·.1)).map kD).map T.z := by rw [List.map_map, List.map_map]; rfl
    rw [e2, ← k] at q
    refine q.new ?_
    have gen : ∀ ks : List (Key × V), RpAll g F (ks.map fun kv => kV kv.1) ((ks.map (·.1)).map kD) := fun ks => by
      induction ks with
      | nil => exact .nil
      | cons p r ih =>
        refine .cons ?_ ih
        obtain ⟨k, v⟩ := p
        cases k with
        | inl i => exact .int i
        | inr i => exact .str i
    exact gen kvs
  · cases e
theorem opTuple : Call1 g (fun xs H Q => ∃ p ys, xs = [.ref p] ∧ ((SqL g.K H p ys ∧ ∀ l, H l = none → Q (.ref l) (upd H l (.tup ys))) ∨ (SqT g.K H p ys ∧ Q (.ref p) H))) oTuple := by
  intro F H x dx t Q s hx e q
  unfold oTuple at e
  split at e
  · cases e
    obtain ⟨a, xs, rfl, ha, ra⟩ := hx.lst s
    exact ⟨a, xs, rfl, .inl ⟨.of ha, q.newT s ra⟩⟩
  · cases e
    have hr := hx.tupR
    obtain ⟨a, xs, rfl, ha, ra⟩ := hx.tup s
    exact ⟨a, xs, rfl, .inr ⟨ha, q.val hr⟩⟩
  · cases e
theorem opSet : Call1 g (fun vs H Q => rSetI g.K g.w vs H Q ∨ rSetIT g.K g.w vs H Q) oSet := by
  intro F H x dx t Q s hx e q
  unfold oSet at e
  split at e
  · split at e
    · rename_i ns hn
      split at e
      · rename_i h4
        cases e
        obtain ⟨a, xs, rfl, ha, ra⟩ := hx.lst s
        rw [ints_eq hn] at ra
        rw [ra.ints_inv] at ha
        refine .inl ⟨a, ns, rfl, .of ha, h4, fun p hp => q.2.2 p _ _ rfl hp (.st upd_same (fun k => ?_) (ddp_nodup ns))⟩
        rw [mem_ddp]; simp
      · cases e
    · cases e
  · split at e
    · rename_i ns hn
      split at e
      · rename_i h4
        cases e
        obtain ⟨a, xs, rfl, ha, ra⟩ := hx.tup s
        rw [ints_eq hn] at ra
        rw [ra.ints_inv] at ha
        refine .inr ⟨a, ns, rfl, ha, h4, fun p hp => q.2.2 p _ _ rfl hp (.st upd_same (fun k => ?_) (ddp_nodup ns))⟩
        rw [mem_ddp]; simp
      · cases e
    · cases e
  · cases e
theorem opAll : Call1 g (rAll g.K) oAll := by
  intro F H x dx t Q s hx e q
  unfold oAll at e
  split at e
  · split at e
    · rename_i ns hn
      cases e
      obtain ⟨a, xs, rfl, ha, ra⟩ := hx.lst s
      rw [bls_eq hn] at ra
      rw [ra.bls_inv] at ha
      exact ⟨a, ns, rfl, .of ha, q.val (.bl _)⟩
    · cases e
  · cases e
theorem opAny : Call1 g (rAny g.K) oAny := by
  intro F H x dx t Q s hx e q
  unfold oAny at e
  split at e
  · split at e
    · rename_i ns hn
      cases e
      obtain ⟨a, xs, rfl, ha, ra⟩ := hx.lst s
      rw [bls_eq hn] at ra
      rw [ra.bls_inv] at ha
      exact ⟨a, ns, rfl, .of ha, q.val (.bl _)⟩
    · cases e
  · cases e
theorem opAbs : Call1 g (fun xs H Q => ∃ i, xs = [.int i] ∧ Q (.int (if i < 0 then -i else i)) H) oAbs := by
  intro F H x dx t Q s hx e q
  unfold oAbs at e
  split at e
  · cases e; cases hx.int; exact ⟨_, rfl, q.val (.int _)⟩
  · cases e
theorem opNeg : Op1 g (rU fun i => .int (-i)) oNeg := by
  intro F H x dx t Q s hx e q
  unfold oNeg at e
  split at e
  · cases e; cases hx.int; exact ⟨_, rfl, q.val (.int _)⟩
  · cases e
theorem opInt : Call1 g (fun xs H Q => ((∃ i, xs = [.int i] ∧ Q (.int i) H) ∨ ∃ k, xs = [.bl k] ∧ Q (.int (if k then 1 else 0)) H) ∨ ∃ a n, xs = [.str a] ∧ PySem.intText? a = some n ∧ a.length ≤ 640 ∧ Q (.int n) H) oInt := by
  intro F H x dx t Q s hx e q
  unfold oInt at e
  split at e
  · cases e; cases hx.int; exact .inl (.inl ⟨_, rfl, q.val (.int _)⟩)
  · cases e; cases hx.bl; exact .inl (.inr ⟨_, rfl, q.val (.int _)⟩)
  · split at e
    · rename_i h
      split at e
      · rename_i n hn; cases e; cases hx.str; exact .inr ⟨_, n, rfl, hn, h, q.val (.int _)⟩
      · cases e
    · cases e
  · cases e
theorem opStr : Call1 g (fun xs H Q => ∃ i, xs = [.int i] ∧ i.natAbs.log2 < 1920 ∧ Q (.str (toString i)) H) oStr := by
  intro F H x dx t Q s hx e q
  unfold oStr at e
  split at e
  · split at e
    · rename_i h; cases e; cases hx.int
      exact ⟨_, rfl, Nat.lt_trans (PySem.Flt.log2_lt_of (by decide) h) (by decide), q.val (.str _)⟩
    · cases e
  · cases e
theorem opMin2 : Call2 g (fun xs H Q => ∃ i j, xs = [.int i, .int j] ∧ Q (.int (if j < i then j else i)) H) oMin2 := by
  intro F H x y dx dy t Q s hx hy e q
  unfold oMin2 at e
  split at e
  · cases e; cases hx.int; cases hy.int; exact ⟨_, _, rfl, q.val (.int _)⟩
  · cases e
end
end Ar
/-! ArE: what a piece of a def does to its slots (R, M), and the readings that say so (tD, tZ, tV, tAt). -/
namespace Ar
open PySem PySem.Spec PyProof.Rows L2

inductive R (α : Type) where
  | ok (a : α) (ts : List T) | ex (c : Str) (ts : List T) | bad
abbrev M (α : Type) := List T → R α
def M.ret {α : Type} (a : α) : M α := fun ts => .ok a ts
def M.andThen {α β : Type} (m : M α) (f : α → M β) : M β := fun ts => match m ts with
  | .ok a ts' => f a ts'
  | .ex c ts' => .ex c ts'
  | .bad => .bad
instance : Monad M where
  pure := M.ret
  bind := M.andThen
def stop {α : Type} : M α := fun _ => .bad
/-- a value that may not be -/
def opt {α : Type} : Option α → M α
  | some a => M.ret a
  | none => stop
def frz (t : T) : M D := opt t.fz
theorem bind_ok {α β : Type} {m : M α} {f : α → M β} {ts ts' : List T} {a : α} (h : m ts = .ok a ts') : (m >>= f) ts = f a ts' := by
  show M.andThen m f ts = _
  unfold M.andThen; rw [h]
theorem bind_ex {α β : Type} {m : M α} {f : α → M β} {ts ts' : List T} {c : Str} (h : m ts = .ex c ts') : (m >>= f) ts = .ex c ts' := by
  show M.andThen m f ts = _
  unfold M.andThen; rw [h]
theorem bind_bad {α β : Type} {m : M α} {f : α → M β} {ts : List T} (h : m ts = .bad) : (m >>= f) ts = .bad := by
  show M.andThen m f ts = _
  unfold M.andThen; rw [h]
@[simp] theorem pure_ap {α : Type} (a : α) (ts : List T) : (pure a : M α) ts = .ok a ts := rfl
@[simp] theorem opt_some {α : Type} (a : α) (ts : List T) : (opt (some a) : M α) ts = .ok a ts := rfl
@[simp] theorem opt_none {α : Type} (ts : List T) : (opt (none : Option α) : M α) ts = .bad := rfl

/-! ### states -/
section
variable {g : Gx} {F F' Mm M' G G' H H' : Hp} {σ : L2.St} {ts : List T}
theorem Hc.grow {p : Addr} {o : HO} (h : Hc F Mm G H) (n : H p = none) (nt : ∀ xs, o ≠ .tup xs := by intro _ z; cases z) : Hc F Mm G (upd H p o) :=
  ⟨h.fh.trans (same_upd n), h.mh.trans (same_upd n), h.gh.trans (same_upd n), h.fm, h.fg, h.mg, h.ft.cell nt⟩
theorem Sta.grow {p : Addr} {o : HO} (h : Sta g F Mm G H σ ts) (n : H p = none) (nt : ∀ xs, o ≠ .tup xs := by intro _ z; cases z) : Sta g F Mm G (upd H p o) σ ts := ⟨h.hc.grow n nt, h.vs, h.len⟩
/-- more is frozen -/
theorem Sta.more (h : Sta g F Mm G H σ ts) (s : Same F F') (hc : Hc F' Mm G' H') : Sta g F' Mm G' H' σ ts := by
  obtain ⟨vs, r, e⟩ := h.vs
  exact ⟨hc, ⟨vs, r.mono s, e⟩, h.len⟩
/-- a new owned object beside -/
theorem Sta.newO {p : Addr} {o : HO} (h : Sta g F Mm G H σ ts) (n : H p = none) (nt : ∀ xs, o ≠ .tup xs := by intro _ z; cases z) : Sta g F Mm (jn (upd em p o) G) (upd H p o) σ ts ∧ Dj (upd em p o) G := by
  have hc := h.hc
  have fF := hc.fh.free n
  have fM := hc.mh.free n
  have fG := hc.gh.free n
  have d : Dj (upd em p o) G := dj_upd_l Dj.em_l fG
  refine ⟨h.more (Same.refl _) ⟨hc.fh.trans (same_upd n), hc.mh.trans (same_upd n), jn_sub (same_upd_l Same.empty upd_same) (hc.gh.trans (same_upd n)), hc.fm, dj_jn_r (dj_upd_l Dj.em_l fF).symm hc.fg, dj_jn_r (dj_upd_l Dj.em_l fM).symm hc.mg, hc.ft.cell nt⟩, d⟩
/-- a new frozen object -/
theorem Sta.newF {p : Addr} {o : HO} (h : Sta g F Mm G H σ ts) (n : H p = none) : Same F (upd F p o) ∧ Sta g (upd F p o) Mm G (upd H p o) σ ts := by
  have hc := h.hc
  have fF := hc.fh.free n
  have fM := hc.mh.free n
  have fG := hc.gh.free n
  exact ⟨same_upd fF, h.more (same_upd fF) ⟨same_upd_l (hc.fh.trans (same_upd n)) upd_same, hc.mh.trans (same_upd n), hc.gh.trans (same_upd n), dj_upd_l hc.fm fM, dj_upd_l hc.fg fG, hc.mg, hc.ft.both⟩⟩
/-- what was beside is frozen -/
theorem Sta.freeze {Mv : Hp} (h : Sta g F Mm (jn Mv G) H σ ts) (d : Dj Mv G) : Same F (jn F Mv) ∧ Sta g (jn F Mv) Mm G H σ ts := by
  have hc := h.hc
  have dF : Dj F Mv := hc.fg.sub (Same.refl _) jn_l
  have dM : Dj Mm Mv := hc.mg.sub (Same.refl _) jn_l
  refine ⟨jn_l, h.more jn_l ⟨jn_sub hc.fh (jn_l.trans hc.gh), hc.mh, (jn_r d).trans hc.gh, dj_jn hc.fm dM.symm, dj_jn (hc.fg.sub (Same.refl _) (jn_r d)) d, hc.mg.sub (Same.refl _) (jn_r d), hc.ft.mono jn_l⟩⟩
/-- what stands in a slot -/
theorem Sta.slot {i : Nat} {t : T} (h : Sta g F Mm G H σ ts) (e : ts[i]? = some t) (n : t ≠ .gone) : ∃ (v : V) (M1 M2 : Hp) (vs : List V), σ[i]? = some (some v) ∧ RO g F M1 v t ∧ Same M1 Mm ∧ Same M2 Mm ∧ Dj M1 M2 ∧
    (∀ (k : Nat) (v : V) (t : T), vs[k]? = some v → ts[k]? = some t → t = .gone ∨ σ[k]? = some (some v)) ∧ vs[i]? = some v ∧
      ∀ F' M1' v' t' M', Same F F' → RO g F' M1' v' t' → Dj M1' M2 → Same M1' M' → Same M2 M' → ROs g F' M' (vs.set i v') (ts.set i t') := by
  obtain ⟨vs, r, q⟩ := h.vs
  obtain ⟨v, M1, M2, e1, ro, s1, s2, d, back⟩ := r.pick e
  refine ⟨v, M1, M2, vs, ?_, ro, s1, s2, d, q, e1, back⟩
  rcases q i v t e1 e with z | z
  · exact absurd z n
  · exact z
theorem set_slots {vs : List V} {i : Nat} {v : V} {t' : T} (q : ∀ (k : Nat) (v : V) (t : T), vs[k]? = some v → ts[k]? = some t → t = .gone ∨ σ[k]? = some (some v)) (e : σ[i]? = some (some v)) :
    ∀ (k : Nat) (u : V) (t : T), (vs.set i v)[k]? = some u → (ts.set i t')[k]? = some t → t = .gone ∨ σ[k]? = some (some u) := fun k u t h1 h2 => by
  by_cases hk : i = k
  · subst hk
    have : i < vs.length := by
      have := (List.getElem?_eq_some_iff.mp h1).1
      rwa [List.length_set] at this
    rw [List.getElem?_set_self this] at h1
    cases h1
    exact .inr e
  · rw [List.getElem?_set_ne hk] at h1 h2
    exact q k u t h1 h2
/-- a slot's content is changed, its value stays -/
theorem Sta.put {i : Nat} {v : V} {t' : T} {vs : List V} (h : Sta g F Mm G H σ ts) (s : Same F F') (e : σ[i]? = some (some v))
    (q : ∀ (k : Nat) (v : V) (t : T), vs[k]? = some v → ts[k]? = some t → t = .gone ∨ σ[k]? = some (some v))
    (r : ROs g F' M' (vs.set i v) (ts.set i t')) (hc : Hc F' M' G' H') : Sta g F' M' G' H' σ (ts.set i t') :=
  ⟨hc, ⟨_, r, set_slots q e⟩, by rw [List.length_set]; exact h.len⟩
end

/-! ### the readings -/
section
variable (g : Gx) (W : WX)
/-- an expression's: m says what comes (owned), or what is raised -/
def tD (m : M T) : TE := fun σ H Q => ∃ F Mm G ts, Sta g F Mm G H σ ts ∧ match m ts with
  | .bad => False
  | .ok t ts' => ∀ F' Mv M' H' v, Same F F' → RO g F' Mv v t → Sta g F' M' (jn Mv G) H' σ ts' → Dj Mv G → Q v H'
  | .ex c ts' => ∀ F' M' H' C, Same F F' → Sta g F' M' G H' σ ts' → g.mg c = some (.ref C) → W (.ref C) none σ H'
/-- .. what comes is frozen -/
def tZ (m : M D) : TE := fun σ H Q => ∃ F Mm G ts, Sta g F Mm G H σ ts ∧ match m ts with
  | .bad => False
  | .ok d ts' => ∀ F' M' H' v, Same F F' → Rp g F' v d → Sta g F' M' G H' σ ts' → Q v H'
  | .ex c ts' => ∀ F' M' H' C, Same F F' → Sta g F' M' G H' σ ts' → g.mg c = some (.ref C) → W (.ref C) none σ H'
/-- .. what comes is seen -/
def tV (m : M D) : TE := fun σ H Q => ∃ F Mm G ts, Sta g F Mm G H σ ts ∧ match m ts with
  | .bad => False
  | .ok d ts' => ∀ F' M' H' v, Same F F' → Vh g F' H' v d → Sta g F' M' G H' σ ts' → Q v H'
  | .ex c ts' => ∀ F' M' H' C, Same F F' → Sta g F' M' G H' σ ts' → g.mg c = some (.ref C) → W (.ref C) none σ H'
/-- a name, a constant: seen, and nothing happens -/
def tAt (m : List T → Option D) : TE := fun σ H Q => ∃ F Mm G ts d, Sta g F Mm G H σ ts ∧ m ts = some d ∧ ∀ v, Vh g F H v d → Q v H
/-- a test's -/
def tB (m : M Bool) : TT := fun σ H Q => ∃ F Mm G ts, Sta g F Mm G H σ ts ∧ match m ts with
  | .bad => False
  | .ok b ts' => ∀ F' M' H', Same F F' → Sta g F' M' G H' σ ts' → Q b H'
  | .ex c ts' => ∀ F' M' H' C, Same F F' → Sta g F' M' G H' σ ts' → g.mg c = some (.ref C) → W (.ref C) none σ H'
end
theorem pe_imp {X : Cx} {e : Expr} {t t' : TE} (h : PE X e t) (i : ∀ σ H Q, t' σ H Q → t σ H Q) : PE X e t' := ⟨fun pins s σ H Q I q => h.run pins s σ H Q I (i σ H Q q)⟩
theorem pt_imp {X : Cx} {e : Expr} {t t' : TT} (h : PT X e t) (i : ∀ σ H Q, t' σ H Q → t σ H Q) : PT X e t' := ⟨fun pins s σ H Q I q => h.run pins s σ H Q I (i σ H Q q)⟩
theorem pw_imp {X : Cx} {e : Expr} {t t' : TT} (h : PW X e t) (i : ∀ σ H Q, t' σ H Q → t σ H Q) : PW X e t' := ⟨fun wh pins s σ H Q I q => h.run wh pins s σ H Q I (i σ H Q q)⟩
section
variable {g : Gx} {W : WX} {σ : L2.St} {H : Hp} {Q : VK}
theorem out_of {F Mm G : Hp} {ts : List T} {t : T} (st : Sta g F Mm G H σ ts)
    (h : ∀ F' Mv M' H' v, Same F F' → RO g F' Mv v t → Sta g F' M' (jn Mv G) H' σ ts → Dj Mv G → Q v H') : Out g F H t Q := by
  refine ⟨fun v r => h F em Mm H v (Same.refl _) (r em) st Dj.em_l, fun p o n r => ?_, fun p o d e n r => ?_⟩
  · have key : (∀ xs, o ≠ .tup xs) → Q (.ref p) (upd H p o) := fun nt => by
      obtain ⟨s1, d⟩ := st.newO (o := o) n nt
      exact h F (upd em p o) Mm _ _ (Same.refl _) (r _ upd_same) s1 d
    cases o with
    | tup xs =>
      obtain ⟨s0, s1⟩ := st.newF (o := .tup xs) n
      have no : ∀ {o : HO}, upd em p (.tup xs) p = some o → o = .tup xs := fun e => by rw [upd_same] at e; cases e; rfl
      have r1 : RO g (upd F p (.tup xs)) em (.ref p) t := by
        have r0 := r (upd em p (.tup xs)) upd_same
        cases r0 with
        | z q => exact .z (q.mono s0)
        | tp e _ => rw [st.hc.fh.free n] at e; cases e
        | gone => exact .gone
        | l e => cases no e
        | dk e => cases no e
        | dt e => cases no e
        | ob _ e => cases no e
      exact h _ em Mm _ _ s0 r1 s1 Dj.em_l
    | _ => exact key fun _ z => by cases z
  · subst e
    obtain ⟨s0, s1⟩ := st.newF (o := o) n
    exact h _ em Mm _ _ s0 (.z r) s1 Dj.em_l
/-- the whole of a row: what is raised goes on, what comes is handed on -/
theorem tD_then {α : Type} {m : M T} {f : T → M α} {K : R α → Prop} {F Mm G : Hp} {ts : List T} (st : Sta g F Mm G H σ ts) (hb : ¬ K .bad)
    (hx : ∀ c ts', K (.ex c ts') → ∀ F' M' H' C, Same F F' → Sta g F' M' G H' σ ts' → g.mg c = some (.ref C) → W (.ref C) none σ H')
    (h : K ((m >>= f) ts)) (go : ∀ t ts', m ts = .ok t ts' → K (f t ts') → ∀ F' Mv M' H' v, Same F F' → RO g F' Mv v t → Sta g F' M' (jn Mv G) H' σ ts' → Dj Mv G → Q v H') : tD g W m σ H Q := by
  refine ⟨F, Mm, G, ts, st, ?_⟩
  cases e : m ts with
  | bad => rw [bind_bad e] at h; exact hb h
  | ex c ts' => rw [bind_ex e] at h; exact hx c ts' h
  | ok t ts' => rw [bind_ok e] at h; exact go t ts' e h
theorem tZ_then {α : Type} {m : M D} {f : D → M α} {K : R α → Prop} {F Mm G : Hp} {ts : List T} (st : Sta g F Mm G H σ ts) (hb : ¬ K .bad)
    (hx : ∀ c ts', K (.ex c ts') → ∀ F' M' H' C, Same F F' → Sta g F' M' G H' σ ts' → g.mg c = some (.ref C) → W (.ref C) none σ H')
    (h : K ((m >>= f) ts)) (go : ∀ t ts', m ts = .ok t ts' → K (f t ts') → ∀ F' M' H' v, Same F F' → Rp g F' v t → Sta g F' M' G H' σ ts' → Q v H') : tZ g W m σ H Q := by
  refine ⟨F, Mm, G, ts, st, ?_⟩
  cases e : m ts with
  | bad => rw [bind_bad e] at h; exact hb h
  | ex c ts' => rw [bind_ex e] at h; exact hx c ts' h
  | ok t ts' => rw [bind_ok e] at h; exact go t ts' e h
theorem tV_then {α : Type} {m : M D} {f : D → M α} {K : R α → Prop} {F Mm G : Hp} {ts : List T} (st : Sta g F Mm G H σ ts) (hb : ¬ K .bad)
    (hx : ∀ c ts', K (.ex c ts') → ∀ F' M' H' C, Same F F' → Sta g F' M' G H' σ ts' → g.mg c = some (.ref C) → W (.ref C) none σ H')
    (h : K ((m >>= f) ts)) (go : ∀ t ts', m ts = .ok t ts' → K (f t ts') → ∀ F' M' H' v, Same F F' → Vh g F' H' v t → Sta g F' M' G H' σ ts' → Q v H') : tV g W m σ H Q := by
  refine ⟨F, Mm, G, ts, st, ?_⟩
  cases e : m ts with
  | bad => rw [bind_bad e] at h; exact hb h
  | ex c ts' => rw [bind_ex e] at h; exact hx c ts' h
  | ok t ts' => rw [bind_ok e] at h; exact go t ts' e h
end
end Ar
/-! ArF: the rules of expressions. -/
namespace Ar
open PySem PySem.Spec PyProof.Rows L2

section
variable (g : Gx) (W : WX) (F G : Hp) (σ : L2.St)
def KX (c : Str) (ts' : List T) : Prop := ∀ F' M' H' C, Same F F' → Sta g F' M' G H' σ ts' → g.mg c = some (.ref C) → W (.ref C) none σ H'
def KD (Q : VK) (r : R T) : Prop := match r with
  | .bad => False
  | .ok t ts' => ∀ F' Mv M' H' v, Same F F' → RO g F' Mv v t → Sta g F' M' (jn Mv G) H' σ ts' → Dj Mv G → Q v H'
  | .ex c ts' => KX g W F G σ c ts'
def KZ (Q : VK) (r : R D) : Prop := match r with
  | .bad => False
  | .ok d ts' => ∀ F' M' H' v, Same F F' → Rp g F' v d → Sta g F' M' G H' σ ts' → Q v H'
  | .ex c ts' => KX g W F G σ c ts'
def KB (Q : Bool → Hp → Prop) (r : R Bool) : Prop := match r with
  | .bad => False
  | .ok b ts' => ∀ F' M' H', Same F F' → Sta g F' M' G H' σ ts' → Q b H'
  | .ex c ts' => KX g W F G σ c ts'
end
section
variable {g : Gx} {W : WX} {F F1 G : Hp} {σ : L2.St} {Q : VK}
theorem KX.mono {c ts} (s : Same F F1) (h : KX g W F G σ c ts) : KX g W F1 G σ c ts := fun F' M' H' C s1 => h F' M' H' C (s.trans s1)
theorem KD.mono {r} (s : Same F F1) (h : KD g W F G σ Q r) : KD g W F1 G σ Q r := by
  cases r with
  | bad => exact h
  | ok t ts => exact fun F' Mv M' H' v s1 => h F' Mv M' H' v (s.trans s1)
  | ex c ts => exact KX.mono s h
theorem KZ.mono {r} (s : Same F F1) (h : KZ g W F G σ Q r) : KZ g W F1 G σ Q r := by
  cases r with
  | bad => exact h
  | ok t ts => exact fun F' M' H' v s1 => h F' M' H' v (s.trans s1)
  | ex c ts => exact KX.mono s h
theorem KB.mono {r} {Q : Bool → Hp → Prop} (s : Same F F1) (h : KB g W F G σ Q r) : KB g W F1 G σ Q r := by
  cases r with
  | bad => exact h
  | ok t ts => exact fun F' M' H' s1 => h F' M' H' (s.trans s1)
  | ex c ts => exact KX.mono s h
theorem KD.opt {o : Option T} {ts : List T} {Mm H : Hp} (st : Sta g F Mm G H σ ts) (h : KD g W F G σ Q (Ar.opt o ts)) : ∃ t, o = some t ∧ Out g F H t Q := by
  cases o with
  | none => exact h.elim
  | some t => exact ⟨t, rfl, out_of st h⟩
end
section
variable {X : Cx} {W : WX} {a b e : Expr} {pos : Pos}

/-! ### names and constants -/
def vwz : List T → Option (List D)
  | [] => some []
  | .z d :: r => match vwz r with | some l => some (d :: l) | none => none
  | _ :: _ => none
def vwk : List (Key × T) → Option (List (Key × D))
  | [] => some []
  | (k, .z d) :: r => match vwk r with | some l => some ((k, d) :: l) | none => none
  | _ :: _ => none
/-- what is seen of an owned tree -/
def T.vw : T → Option D
  | .z d => some d
  | .l ts => match vwz ts with | some ys => some (.lst ys) | none => none
  | .dk kvs => match vwk kvs with | some ys => some (.dk ys) | none => none
  | .dt kvs => some (.dt kvs)
  | .ob _ _ => none
  | .tp _ => none
  | .gone => none
theorem vwz_eq : ∀ {ts : List T} {ds : List D}, vwz ts = some ds → ts = ds.map T.z
  | [], ds, e => by cases e; rfl
  | .z d :: r, ds, e => by
    rw [vwz] at e
    cases q : vwz r with
    | none => rw [q] at e; cases e
    | some l => rw [q] at e; cases e; rw [vwz_eq q]; rfl
  | .l _ :: _, _, e => by cases e
  | .dk _ :: _, _, e => by cases e
  | .dt _ :: _, _, e => by cases e
  | .ob _ _ :: _, _, e => by cases e
  | .tp _ :: _, _, e => by cases e
  | .gone :: _, _, e => by cases e
theorem vwz_of : ∀ ds : List D, vwz (ds.map T.z) = some ds
  | [] => rfl
  | d :: r => by rw [List.map_cons, vwz, vwz_of r]
theorem vw_l (ds : List D) : T.vw (.l (ds.map T.z)) = some (.lst ds) := by rw [T.vw, vwz_of]
theorem vwk_eq : ∀ {ts : List (Key × T)} {ds : List (Key × D)}, vwk ts = some ds → ts = ds.map fun p => (p.1, T.z p.2)
  | [], ds, e => by cases e; rfl
  | (k, .z d) :: r, ds, e => by
    rw [vwk] at e
    cases q : vwk r with
    | none => rw [q] at e; cases e
    | some l => rw [q] at e; cases e; rw [vwk_eq q]; rfl
  | (_, .l _) :: _, _, e => by cases e
  | (_, .dk _) :: _, _, e => by cases e
  | (_, .dt _) :: _, _, e => by cases e
  | (_, .ob _ _) :: _, _, e => by cases e
  | (_, .tp _) :: _, _, e => by cases e
  | (_, .gone) :: _, _, e => by cases e
theorem vw_gone {t : T} {d : D} (e : t.vw = some d) : t ≠ .gone := by rintro rfl; cases e
theorem RO.vw {g : Gx} {F M H : Hp} {v : V} {t : T} {d : D} (r : RO g F M v t) (e : t.vw = some d) (s : Same M H) : Vh g F H v d := by
  cases r with
  | z h => cases e; exact .r h
  | l h1 h2 h3 h4 =>
    rename_i ts
    rw [T.vw] at e
    cases q : vwz ts with
    | none => rw [q] at e; cases e
    | some l => rw [q] at e; cases e; rw [vwz_eq q] at h4; exact .l (s _ _ h1) h4.all_of
  | dk h1 h2 h3 h4 h5 =>
    rename_i ts
    rw [T.vw] at e
    cases q : vwk ts with
    | none => rw [q] at e; cases e
    | some l =>
      rw [q] at e; cases e
      have e2 := vwk_eq q
      subst e2
      have e3 : (l.map fun p => (p.1, T.z p.2)).map (·.2) = (l.map (·.2)).map T.z := by rw [List.map_map, List.map_map]; rfl
      rw [e3] at h5
      exact .dk (s _ _ h1) (by rw [h4, List.map_map]; rfl) h5.all_of
  | dt h1 h2 h3 => cases e; exact .dt (s _ _ h1) h2 h3
  | ob _ _ _ _ _ _ _ _ => cases e
  | tp _ _ => cases e
  | gone => cases e
def seeN (i : Nat) : List T → Option D := fun ts => (ts[i]?).bind T.vw
theorem pe_seeN {i : Nat} {x : Str} {p : Pos} (hN : X.N[i]? = some x) (hv : Vis X.env.scope x) (hd : (x == ("__debug__" : Str)) = false) (hcd : (x == ("__classdict__" : Str)) = false) : PE X (.Name x p) (tAt (gx X) (seeN i)) :=
  pe_imp (pe_var hN hv hd hcd) fun σ H Q ⟨F, Mm, G, ts, d, st, e, q⟩ => by
    unfold seeN at e
    cases q1 : ts[i]? with
    | none => rw [q1] at e; cases e
    | some t =>
      rw [q1] at e
      obtain ⟨v, M1, M2, vs, e1, r, s1, _⟩ := st.slot q1 (vw_gone e)
      exact ⟨v, e1, q v (r.vw e (s1.trans st.hc.mh))⟩
theorem pe_seeC {d : D} {v : V} (h : PE X e (tC v)) (r : ∀ F, Rp (gx X) F v d) : PE X e (tAt (gx X) fun _ => some d) :=
  pe_imp h fun σ H Q ⟨F, Mm, G, ts, d', st, e, q⟩ => by cases e; exact q v (.r (r F))
/-- a name read as a thing of its own: what it holds is frozen -/
def rdz (i : Nat) : M T := fun ts => match ts[i]? with
  | some t => match t.fz with
    | some d => .ok (.z d) (ts.set i (.z d))
    | none => .bad
  | none => .bad
theorem fz_gone {t : T} {d : D} (e : t.fz = some d) : t ≠ .gone := by rintro rfl; cases e
theorem pe_rdz {i : Nat} {x : Str} {p : Pos} (hN : X.N[i]? = some x) (hv : Vis X.env.scope x) (hd : (x == ("__debug__" : Str)) = false) (hcd : (x == ("__classdict__" : Str)) = false) : PE X (.Name x p) (tD (gx X) W (rdz i)) :=
  pe_imp (pe_var hN hv hd hcd) fun σ H Q ⟨F, Mm, G, ts, st, k⟩ => by
    unfold rdz at k
    cases q1 : ts[i]? with
    | none => rw [q1] at k; exact k.elim
    | some t =>
      simp only [q1] at k
      cases q2 : t.fz with
      | none => rw [q2] at k; exact k.elim
      | some d =>
        simp only [q2] at k
        obtain ⟨v, M1, M2, vs, e1, r, s1, s2, dj, q, ev, back⟩ := st.slot q1 (fz_gone q2)
        have hc := st.hc
        have d1 : Dj F M1 := hc.fm.sub (Same.refl _) s1
        have d2 : Dj F M2 := hc.fm.sub (Same.refl _) s2
        have rp : Rp (gx X) (jn F M1) v d := r.fz q2 jn_l (jn_r d1)
        refine ⟨v, e1, k (jn F M1) em M2 H v jn_l (.z rp) ?_ Dj.em_l⟩
        refine st.put (G' := jn em G) (H' := H) jn_l e1 q (back _ em v (.z d) M2 jn_l (.z rp) Dj.em_l Same.empty (Same.refl _)) ?_
        exact ⟨jn_sub hc.fh (s1.trans hc.mh), s2.trans hc.mh, hc.gh, dj_jn d2 dj, dj_jn hc.fg (hc.mg.sub s1 (Same.refl _)), hc.mg.sub s2 (Same.refl _), hc.ft.mono jn_l⟩
/-- a name handed on: an owned thing leaves its slot -/
def mv (i : Nat) : M T := fun ts => match ts[i]? with
  | some (.z d) => .ok (.z d) ts
  | some .gone => .bad
  | some t => .ok t (ts.set i .gone)
  | none => .bad
theorem Sta.take {g : Gx} {F Mm G H : Hp} {σ : L2.St} {ts : List T} {i : Nat} {t : T} (st : Sta g F Mm G H σ ts) (q1 : ts[i]? = some t) (n : t ≠ .gone) :
    ∃ v M1 M2, σ[i]? = some (some v) ∧ RO g F M1 v t ∧ Sta g F M2 (jn M1 G) H σ (ts.set i .gone) ∧ Dj M1 G := by
  obtain ⟨v, M1, M2, vs, e1, r, s1, s2, dj, q, ev, back⟩ := st.slot q1 n
  have hc := st.hc
  have d1 : Dj M1 G := hc.mg.sub s1 (Same.refl _)
  refine ⟨v, M1, M2, e1, r, ?_, d1⟩
  refine st.put (Same.refl _) e1 q (back F em v .gone M2 (Same.refl _) .gone Dj.em_l Same.empty (Same.refl _)) ?_
  exact ⟨hc.fh, s2.trans hc.mh, jn_sub (s1.trans hc.mh) hc.gh, hc.fm.sub (Same.refl _) s2, dj_jn_r (hc.fm.sub (Same.refl _) s1) hc.fg, dj_jn_r dj.symm (hc.mg.sub s2 (Same.refl _)), hc.ft⟩
theorem pe_mv {i : Nat} {x : Str} {p : Pos} (hN : X.N[i]? = some x) (hv : Vis X.env.scope x) (hd : (x == ("__debug__" : Str)) = false) (hcd : (x == ("__classdict__" : Str)) = false) : PE X (.Name x p) (tD (gx X) W (mv i)) :=
  pe_imp (pe_var hN hv hd hcd) fun σ H Q ⟨F, Mm, G, ts, st, k⟩ => by
    unfold mv at k
    have own : ∀ t : T, ts[i]? = some t → t ≠ .gone → KD (gx X) W F G σ Q (.ok t (ts.set i .gone)) → ∃ v, σ[i]? = some (some v) ∧ Q v H := fun t q1 n k => by
      obtain ⟨v, M1, M2, e1, r, st2, d⟩ := st.take q1 n
      exact ⟨v, e1, k F M1 M2 H v (Same.refl _) r st2 d⟩
    cases q1 : ts[i]? with
    | none => rw [q1] at k; exact k.elim
    | some t =>
      rw [q1] at k
      cases t with
      | gone => exact k.elim
      | z d =>
        obtain ⟨v, M1, M2, vs, e1, r, s1, _⟩ := st.slot q1 (fun z => nomatch z)
        refine ⟨v, e1, k F em Mm H v (Same.refl _) ?_ st Dj.em_l⟩
        cases r with | z h => exact .z h
      | l ts' => exact own _ q1 (fun z => nomatch z) k
      | dk ts' => exact own _ q1 (fun z => nomatch z) k
      | dt ts' => exact own _ q1 (fun z => nomatch z) k
      | ob c ts' => exact own _ q1 (fun z => nomatch z) k
      | tp ts' => exact own _ q1 (fun z => nomatch z) k
theorem pe_const {d : D} {v : V} (h : PE X e (tC v)) (r : ∀ F, Rp (gx X) F v d) : PE X e (tD (gx X) W (M.ret (.z d))) :=
  pe_imp h fun σ H Q ⟨F, Mm, G, ts, st, k⟩ => k F em Mm H v (Same.refl _) (.z (r F)) st Dj.em_l

/-! ### freezing, seeing -/
theorem pe_frz {m : M T} (h : PE X e (tD (gx X) W m)) : PE X e (tZ (gx X) W (m >>= frz)) :=
  pe_imp h fun σ H Q ⟨F, Mm, G, ts, st, k⟩ => tD_then (K := KZ (gx X) W F G σ Q) st id (fun _ _ z => z) k fun t ts1 _ k1 F1 Mv M1 H1 v s1 r st1 dj => by
    unfold frz at k1
    cases q : t.fz with
    | none => rw [q] at k1; exact k1.elim
    | some d =>
      rw [q] at k1
      obtain ⟨s2, st2⟩ := st1.freeze dj
      exact k1 _ M1 H1 v (s1.trans s2) (r.fz q s2 (jn_r (st1.hc.fg.sub (Same.refl _) jn_l))) st2
theorem pe_zv {m : M D} (h : PE X e (tZ (gx X) W m)) : PE X e (tV (gx X) W m) :=
  pe_imp h fun σ H Q ⟨F, Mm, G, ts, st, k⟩ => ⟨F, Mm, G, ts, st, by
    cases q : m ts with
    | bad => rw [q] at k; exact k
    | ex c ts' => rw [q] at k; exact k
    | ok d ts' => rw [q] at k; exact fun F' M' H' v s r st' => k F' M' H' v s (.r r) st'⟩
def see (m : List T → Option D) : M D := fun ts => opt (m ts) ts
theorem pe_atv {m : List T → Option D} (h : PE X e (tAt (gx X) m)) : PE X e (tV (gx X) W (see m)) :=
  pe_imp h fun σ H Q ⟨F, Mm, G, ts, st, k⟩ => by
    unfold see at k
    cases q : m ts with
    | none => rw [q] at k; exact k.elim
    | some d => rw [q] at k; exact ⟨F, Mm, G, ts, d, st, q, fun v r => k F Mm H v (Same.refl _) r st⟩

/-! ### two things in a row, then what is done with both -/
/-- b is any expression: a is frozen -/
theorem two_Z {ta tb : TE} {ma mb : M D} {f : D → D → Option T} {R2' : V → V → Hp → VK → Prop} (hs : Op2 (gx X) R2' f) (ha : PE X a (tZ (gx X) W ma)) (hb : PE X b (tV (gx X) W mb)) {σ : L2.St} {H : Hp} {Q : VK}
    (h : tD (gx X) W (ma >>= fun x => mb >>= fun y => opt (f x y)) σ H Q) : tZ (gx X) W ma σ H fun x H1 => tV (gx X) W mb σ H1 fun y H2 => R2' x y H2 Q := by
  obtain ⟨F, Mm, G, ts, st, k⟩ := h
  refine tZ_then (K := KD (gx X) W F G σ Q) st id (fun _ _ z => z) k fun da ts1 _ k1 F1 M1 H1 v1 s1 r1 st1 => ?_
  refine tV_then (K := KD (gx X) W F1 G σ Q) st1 id (fun _ _ z => z) (KD.mono s1 k1) fun db ts2 _ k2 F2 M2 H2 v2 s2 r2 st2 => ?_
  obtain ⟨t, e, o⟩ := KD.opt st2 (KD.mono s2 k2)
  exact hs F2 H2 v1 v2 da db t Q st2.hc.fh (.r (r1.mono s2)) r2 e o
/-- b is a name or a constant -/
theorem two_A {ma : M D} {mb : List T → Option D} {f : D → D → Option T} {R2' : V → V → Hp → VK → Prop} (hs : Op2 (gx X) R2' f) {σ : L2.St} {H : Hp} {Q : VK}
    (h : tD (gx X) W (ma >>= fun x => see mb >>= fun y => opt (f x y)) σ H Q) : tV (gx X) W ma σ H fun x H1 => tAt (gx X) mb σ H1 fun y H2 => R2' x y H2 Q := by
  obtain ⟨F, Mm, G, ts, st, k⟩ := h
  refine tV_then (K := KD (gx X) W F G σ Q) st id (fun _ _ z => z) k fun da ts1 _ k1 F1 M1 H1 v1 s1 r1 st1 => ?_
  cases q : mb ts1 with
  | none =>
    have : (see mb >>= fun y => opt (f da y)) ts1 = .bad := bind_bad (by unfold see; rw [q]; rfl)
    rw [this] at k1; exact k1.elim
  | some db =>
    refine ⟨F1, M1, G, ts1, db, st1, q, fun v2 r2 => ?_⟩
    have e1 : (see mb >>= fun y => opt (f da y)) ts1 = opt (f da db) ts1 := bind_ok (by unfold see; rw [q]; rfl)
    rw [e1] at k1
    obtain ⟨t, e, o⟩ := KD.opt st1 (KD.mono s1 k1)
    exact hs F1 H1 v1 v2 da db t Q st1.hc.fh r1 r2 e o
/-- one thing, then what is done with it -/
theorem one_V {ma : M D} {f : D → Option T} {R1' : V → Hp → VK → Prop} (hs : Op1 (gx X) R1' f) {σ : L2.St} {H : Hp} {Q : VK}
    (h : tD (gx X) W (ma >>= fun x => opt (f x)) σ H Q) : tV (gx X) W ma σ H fun x H1 => R1' x H1 Q := by
  obtain ⟨F, Mm, G, ts, st, k⟩ := h
  refine tV_then (K := KD (gx X) W F G σ Q) st id (fun _ _ z => z) k fun da ts1 _ k1 F1 M1 H1 v1 s1 r1 st1 => ?_
  obtain ⟨t, e, o⟩ := KD.opt st1 (KD.mono s1 k1)
  exact hs F1 H1 v1 da t Q st1.hc.fh r1 e o
variable {op : Operator} {cop : CmpOp} {r : R2} {f : D → D → Option T} {ma mb : M D} {mc : List T → Option D}
theorem pe_binZ (ho : OpR X (binaryOp op) r) (hs : Op2 (gx X) r f) (ha : PE X a (tZ (gx X) W ma)) (hb : PE X b (tV (gx X) W mb)) : PE X (.BinOp a op b pos) (tD (gx X) W (ma >>= fun x => mb >>= fun y => opt (f x y))) :=
  pe_imp (pe_op ho ha hb) fun _ _ _ h => two_Z (ta := tZ (gx X) W ma) (tb := tV (gx X) W mb) hs ha hb h
theorem pe_binA (ho : OpR X (binaryOp op) r) (hs : Op2 (gx X) r f) (ha : PE X a (tV (gx X) W ma)) (hb : PE X b (tAt (gx X) mc)) : PE X (.BinOp a op b pos) (tD (gx X) W (ma >>= fun x => see mc >>= fun y => opt (f x y))) :=
  pe_imp (pe_op ho ha hb) fun _ _ _ h => two_A hs h
theorem pe_cmpZ (ho : OpR X (compareOp cop) r) (hs : Op2 (gx X) r f) (ha : PE X a (tZ (gx X) W ma)) (hb : PE X b (tV (gx X) W mb)) (hm : behindInMarks cop b = false) : PE X (.Compare a [cop] [b] pos) (tD (gx X) W (ma >>= fun x => mb >>= fun y => opt (f x y))) :=
  pe_imp (pe_cmpR ho ha hb hm) fun _ _ _ h => two_Z (ta := tZ (gx X) W ma) (tb := tV (gx X) W mb) hs ha hb h
theorem pe_cmpA (ho : OpR X (compareOp cop) r) (hs : Op2 (gx X) r f) (ha : PE X a (tV (gx X) W ma)) (hb : PE X b (tAt (gx X) mc)) (hm : behindInMarks cop b = false) : PE X (.Compare a [cop] [b] pos) (tD (gx X) W (ma >>= fun x => see mc >>= fun y => opt (f x y))) :=
  pe_imp (pe_cmpR ho ha hb hm) fun _ _ _ h => two_A hs h
theorem pe_ixZ (ho : IxR X r) (hs : Op2 (gx X) r f) (ha : PE X a (tZ (gx X) W ma)) (hb : PE X b (tV (gx X) W mb)) (hm : PlainIx b) : PE X (.Subscript a b pos) (tD (gx X) W (ma >>= fun x => mb >>= fun y => opt (f x y))) :=
  pe_imp (pe_ix ho ha hb hm) fun _ _ _ h => two_Z (ta := tZ (gx X) W ma) (tb := tV (gx X) W mb) hs ha hb h
theorem pe_ixA (ho : IxR X r) (hs : Op2 (gx X) r f) (ha : PE X a (tV (gx X) W ma)) (hb : PE X b (tAt (gx X) mc)) (hm : PlainIx b) : PE X (.Subscript a b pos) (tD (gx X) W (ma >>= fun x => see mc >>= fun y => opt (f x y))) :=
  pe_imp (pe_ix ho ha hb hm) fun _ _ _ h => two_A hs h
end
end Ar
/-! ArG: calls of built-ins, displays, tests, calls of the text's own defs. -/
namespace Ar
open PySem PySem.Spec PyProof.Rows L2

def nst : Expr → Bool
  | .Starred _ _ => false
  | _ => true
theorem star_of {e : Expr} (h : nst e = true) (es : List Expr) (env : Env) : starEach (e :: es) env = (false, eval e env) :: starEach es env := by
  cases e <;> first | rfl | cases h
theorem star_all : ∀ {es : List Expr} (h : es.all nst = true) (env : Env) (pos : Pos), (backTo pos (starEach es env)).any (·.1) = false
  | [], _, _, _ => rfl
  | e :: es, h, env, pos => by
    rw [List.all_cons, Bool.and_eq_true] at h
    rw [star_of h.1]
    have ih := star_all h.2 env pos
    unfold backTo at ih ⊢
    simp only [List.map_cons, List.any_cons, Bool.false_or]
    exact ih
section
variable {X : Cx} {W : WX} {a b e : Expr} {es : List Expr} {pos p : Pos} {x : Str} {id T' : String}
variable {r : List V → Hp → VK → Prop} {ma mb : M D} {mc : List T → Option D}
theorem pe_call1 {f : D → Option T} (hc : CallR X (.builtin id) r) (hs : Call1 (gx X) r f) (hg : Gl X x) (hm : X.mg x = none) (hv : bootBuiltins x = some (.builtin id)) (hn : x ≠ "__name__") (hdb : (x == ("__debug__" : Str)) = false) (ha : PE X a (tV (gx X) W ma)) (n1 : nst a = true) :
    PE X (.Call (.Name x p) [a] [] pos) (tD (gx X) W (ma >>= fun y => opt (f y))) :=
  pe_imp (pe_callB hc hg hm hv (pa_cons ha pa_nil (star_of n1 _ _)) hn hdb (star_of n1 _ _) rfl) fun _ _ _ h => one_V (R1' := fun x H Q => r [x] H Q) hs h
theorem pe_callT1 {f : D → Option T} (hc : CallR X (.type T') r) (hs : Call1 (gx X) r f) (hg : Gl X x) (hm : X.mg x = none) (hv : bootBuiltins x = some (.type T')) (hn : x ≠ "__name__") (hdb : (x == ("__debug__" : Str)) = false) (ha : PE X a (tV (gx X) W ma)) (n1 : nst a = true) :
    PE X (.Call (.Name x p) [a] [] pos) (tD (gx X) W (ma >>= fun y => opt (f y))) :=
  pe_imp (pe_callTy hc hg hm hv (pa_cons ha pa_nil (star_of n1 _ _)) hn hdb (star_of n1 _ _) rfl) fun _ _ _ h => one_V (R1' := fun x H Q => r [x] H Q) hs h
theorem pe_call2Z {f : D → D → Option T} (hc : CallR X (.builtin id) r) (hs : Call2 (gx X) r f) (hg : Gl X x) (hm : X.mg x = none) (hv : bootBuiltins x = some (.builtin id)) (hn : x ≠ "__name__") (hdb : (x == ("__debug__" : Str)) = false)
    (ha : PE X a (tZ (gx X) W ma)) (hb : PE X b (tV (gx X) W mb)) (n1 : nst a = true) (n2 : nst b = true) :
    PE X (.Call (.Name x p) [a, b] [] pos) (tD (gx X) W (ma >>= fun x => mb >>= fun y => opt (f x y))) :=
  pe_imp (pe_callB hc hg hm hv (pa_cons ha (pa_cons hb pa_nil (star_of n2 _ _)) (star_of n1 _ _)) hn hdb (star_of n1 _ _) (star_all (by simp [n2]) _ _)) fun _ _ _ h =>
    two_Z (ta := tZ (gx X) W ma) (tb := tV (gx X) W mb) (R2' := fun x y H Q => r [x, y] H Q) hs ha hb h
theorem pe_un1 {uop : UnaryOp} {r1 : V → Hp → VK → Prop} {f : D → Option T} (ho : UnR X (unaryOp uop) r1) (hs : Op1 (gx X) r1 f) (ha : PE X a (tV (gx X) W ma)) : PE X (.UnaryOp uop a pos) (tD (gx X) W (ma >>= fun y => opt (f y))) :=
  pe_imp (pe_un ho ha) fun _ _ _ h => one_V hs h

/-! ### tests -/
def asB (t : T) : M Bool := match t with
  | .z (.bl b) => M.ret b
  | _ => stop
theorem asB_eq {t : T} {σ : L2.St} {F G : Hp} {Q : Bool → Hp → Prop} {ts : List T} {g : Gx} (h : KB g W F G σ Q (asB t ts)) : ∃ b, t = .z (.bl b) ∧ KB g W F G σ Q (.ok b ts) := by
  unfold asB at h
  split at h
  · exact ⟨_, rfl, h⟩
  · exact h.elim
theorem tB_of {m : M T} {σ : L2.St} {H : Hp} {Q : Bool → Hp → Prop} (h : tB (gx X) W (m >>= asB) σ H Q) : tD (gx X) W m σ H fun x H1 => ∃ k, x = .bl k ∧ Q k H1 := by
  obtain ⟨F, Mm, G, ts, st, k⟩ := h
  refine tD_then (K := KB (gx X) W F G σ Q) st id (fun _ _ z => z) k fun t ts1 _ k1 F1 Mv M1 H1 v s1 r st1 dj => ?_
  obtain ⟨b, rfl, k2⟩ := asB_eq k1
  cases r with
  | z r =>
    cases r
    obtain ⟨s2, st2⟩ := st1.freeze dj
    exact ⟨b, rfl, k2 _ M1 H1 (s1.trans s2) st2⟩
def plainT : Expr → Bool
  | .Name _ _ => true
  | .Call _ _ _ _ => true
  | .Subscript _ _ _ => true
  | .Constant _ _ _ => true
  | .Attribute _ _ _ => true
  | _ => false
theorem pt_plain {m : M T} (h : PE X e (tD (gx X) W m)) (hp : plainT e = true) : PT X e (tB (gx X) W (m >>= asB)) := by
  refine pt_imp (pt_val h ?_) fun _ _ _ q => tB_of q
  cases e <;> first | (intro _; rfl) | cases hp
theorem pt_cmpZ' {cop : CmpOp} {r : R2} {f : D → D → Option T} (ho : OpR X (compareOp cop) r) (hs : Op2 (gx X) r f) (ha : PE X a (tZ (gx X) W ma)) (hb : PE X b (tV (gx X) W mb)) (hm : behindInMarks cop b = false) :
    PT X (.Compare a [cop] [b] pos) (tB (gx X) W ((ma >>= fun x => mb >>= fun y => opt (f x y)) >>= asB)) :=
  pt_imp (pt_cmpR ho ha hb hm) fun _ _ _ h => two_Z (ta := tZ (gx X) W ma) (tb := tV (gx X) W mb) hs ha hb (tB_of h)
theorem pt_cmpA' {cop : CmpOp} {r : R2} {f : D → D → Option T} (ho : OpR X (compareOp cop) r) (hs : Op2 (gx X) r f) (ha : PE X a (tV (gx X) W ma)) (hb : PE X b (tAt (gx X) mc)) (hm : behindInMarks cop b = false) :
    PT X (.Compare a [cop] [b] pos) (tB (gx X) W ((ma >>= fun x => see mc >>= fun y => opt (f x y)) >>= asB)) :=
  pt_imp (pt_cmpR ho ha hb hm) fun _ _ _ h => two_A hs (tB_of h)
theorem pt_notB {m : M Bool} (h : PT X a (tB (gx X) W m)) : PT X (.UnaryOp .Not a pos) (tB (gx X) W (m >>= fun b => M.ret !b)) :=
  pt_imp (pt_not h) fun σ H Q ⟨F, Mm, G, ts, st, k⟩ => by
    refine ⟨F, Mm, G, ts, st, ?_⟩
    cases q : m ts with
    | bad => rw [bind_bad q] at k; exact k
    | ex c ts' => rw [bind_ex q] at k; exact k
    | ok b ts' => rw [bind_ok q] at k; exact k
def andB (m n : M Bool) : M Bool := m >>= fun b => if b = true then n else M.ret false
def orB (m n : M Bool) : M Bool := m >>= fun b => if b = true then M.ret true else n
theorem tB_then {α : Type} {m : M Bool} {f : Bool → M α} {K : R α → Prop} {F Mm G H : Hp} {σ : L2.St} {Q : Bool → Hp → Prop} {ts : List T} (st : Sta (gx X) F Mm G H σ ts) (hb : ¬ K .bad)
    (hx : ∀ c ts', K (.ex c ts') → KX (gx X) W F G σ c ts')
    (h : K ((m >>= f) ts)) (go : ∀ b ts', m ts = .ok b ts' → K (f b ts') → ∀ F' M' H', Same F F' → Sta (gx X) F' M' G H' σ ts' → Q b H') : tB (gx X) W m σ H Q := by
  refine ⟨F, Mm, G, ts, st, ?_⟩
  cases e : m ts with
  | bad => rw [bind_bad e] at h; exact hb h
  | ex c ts' => rw [bind_ex e] at h; exact hx c ts' h
  | ok t ts' => rw [bind_ok e] at h; exact go t ts' e h
theorem pw_andB {m n : M Bool} (h1 : PT X a (tB (gx X) W m)) (h2 : PW X (.BoolOp .And (b :: es) pos) (tB (gx X) W n)) : PW X (.BoolOp .And (a :: b :: es) pos) (tB (gx X) W (andB m n)) :=
  pw_imp (pw_and h1 h2) fun σ H Q ⟨F, Mm, G, ts, st, k⟩ => by
    refine tB_then (K := KB (gx X) W F G σ Q) st id (fun _ _ z => z) k fun c ts1 _ k1 F1 M1 H1 s1 st1 => ?_
    cases c with
    | true => exact ⟨F1, M1, G, ts1, st1, KB.mono s1 k1⟩
    | false => exact k1 F1 M1 H1 s1 st1
theorem pw_orB {m n : M Bool} (h1 : PT X a (tB (gx X) W m)) (h2 : PW X (.BoolOp .Or (b :: es) pos) (tB (gx X) W n)) : PW X (.BoolOp .Or (a :: b :: es) pos) (tB (gx X) W (orB m n)) :=
  pw_imp (pw_or h1 h2) fun σ H Q ⟨F, Mm, G, ts, st, k⟩ => by
    refine tB_then (K := KB (gx X) W F G σ Q) st id (fun _ _ z => z) k fun c ts1 _ k1 F1 M1 H1 s1 st1 => ?_
    cases c with
    | false => exact ⟨F1, M1, G, ts1, st1, KB.mono s1 k1⟩
    | true => exact k1 F1 M1 H1 s1 st1
/-- as values: all but the last are True or False -/
def andV (m : M T) (n : M T) : M T := m >>= asB >>= fun b => if b = true then n else M.ret (.z (.bl false))
def orV (m : M T) (n : M T) : M T := m >>= asB >>= fun b => if b = true then M.ret (.z (.bl true)) else n
theorem tD_B {m : M T} {f : Bool → M T} {σ : L2.St} {H : Hp} {Q : VK} {Q' : V → Hp → Prop}
    (h : tD (gx X) W (m >>= asB >>= f) σ H Q) (go : ∀ b F1 M1 G ts1 H1, Sta (gx X) F1 M1 G H1 σ ts1 → KD (gx X) W F1 G σ Q (f b ts1) → Q' (.bl b) H1) : tD (gx X) W m σ H Q' := by
  obtain ⟨F, Mm, G, ts, st, k⟩ := h
  have k' : KD (gx X) W F G σ Q ((m >>= fun t => asB t >>= f) ts) := by
    have e : (m >>= asB >>= f) ts = (m >>= fun t => asB t >>= f) ts := by
      show M.andThen (M.andThen m asB) f ts = M.andThen m (fun t => M.andThen (asB t) f) ts
      unfold M.andThen
      cases m ts <;> rfl
    rw [← e]; exact k
  refine tD_then (K := KD (gx X) W F G σ Q) st id (fun _ _ z => z) k' fun t ts1 _ k1 F1 Mv M1 H1 v s1 r st1 dj => ?_
  have : ∃ b, t = .z (.bl b) ∧ KD (gx X) W F G σ Q (f b ts1) := by
    unfold asB at k1
    split at k1
    · exact ⟨_, rfl, k1⟩
    · exact k1.elim
  obtain ⟨b, rfl, k2⟩ := this
  cases r with
  | z r =>
    cases r
    obtain ⟨s2, st2⟩ := st1.freeze dj
    exact go b _ M1 G ts1 H1 st2 (KD.mono (s1.trans s2) k2)
theorem pe_andV {m n : M T} (h1 : PE X a (tD (gx X) W m)) (h2 : PE X (.BoolOp .And (b :: es) pos) (tD (gx X) W n)) : PE X (.BoolOp .And (a :: b :: es) pos) (tD (gx X) W (andV m n)) :=
  pe_imp (pe_and h1 h2) fun σ H Q h => tD_B (Q := Q) h fun c F1 M1 G ts1 H1 st1 k => ⟨c, rfl, by
    cases c with
    | true => exact ⟨F1, M1, G, ts1, st1, k⟩
    | false => exact k F1 em M1 H1 _ (Same.refl _) (.z (.bl _)) st1 Dj.em_l⟩
def notV (m : M T) : M T := m >>= asB >>= fun b => M.ret (.z (.bl !b))
def ifV (c : M Bool) (m n : M T) : M T := c >>= fun b => if b = true then m else n
theorem pe_ifV {c : Expr} {mc : M Bool} {m n : M T} (h0 : PT X c (tB (gx X) W mc)) (h1 : PE X a (tD (gx X) W m)) (h2 : PE X b (tD (gx X) W n)) : PE X (.IfExp c a b pos) (tD (gx X) W (ifV mc m n)) :=
  pe_imp (pe_ifExp h0 h1 h2) fun σ H Q ⟨F, Mm, G, ts, st, k⟩ => by
    refine tB_then (K := KD (gx X) W F G σ Q) st id (fun _ _ z => z) k fun c ts1 _ k1 F1 M1 H1 s1 st1 => ?_
    cases c with
    | true => exact ⟨F1, M1, G, ts1, st1, KD.mono s1 k1⟩
    | false => exact ⟨F1, M1, G, ts1, st1, KD.mono s1 k1⟩
/-- is None -/
theorem pe_isN' {j : Nat} {p' : Pos} (ha : PE X a (tV (gx X) W ma)) : PE X (.Compare a [.Is] [.Constant .none j p'] pos) (tD (gx X) W (ma >>= fun d => M.ret (.z (.bl (isNonD d))))) :=
  pe_imp (pe_cmp (pc_isN ha) rfl) fun σ H Q h => by
    obtain ⟨F, Mm, G, ts, st, k⟩ := h
    refine tV_then (K := KD (gx X) W F G σ Q) st id (fun _ _ z => z) k fun d ts1 _ k1 F1 M1 H1 v s1 r1 st1 => ?_
    rw [r1.isNon]
    exact k1 F1 em M1 H1 _ s1 (.z (.bl _)) st1 Dj.em_l
theorem pt_isN' {j : Nat} {p' : Pos} (ha : PE X a (tV (gx X) W ma)) : PT X (.Compare a [.Is] [.Constant .none j p'] pos) (tB (gx X) W (ma >>= fun d => M.ret (isNonD d))) :=
  pt_imp (pt_cmp (pc_isN ha) rfl) fun σ H Q h => by
    obtain ⟨F, Mm, G, ts, st, k⟩ := h
    refine tV_then (K := KB (gx X) W F G σ Q) st id (fun _ _ z => z) k fun d ts1 _ k1 F1 M1 H1 v s1 r1 st1 => ?_
    rw [r1.isNon]
    exact ⟨_, rfl, k1 F1 M1 H1 s1 st1⟩
end

/-! ### rows of arguments -/
section
variable {X : Cx} {W : WX} {a b e : Expr} {es : List Expr} {pos p : Pos}
def KL (g : Gx) (W : WX) (F G : Hp) (σ : L2.St) (tks : List (Option Nat)) (Q : List V → Hp → Prop) (r : R (List T)) : Prop := match r with
  | .bad => False
  | .ok tl ts' => ∀ F' Mv M' H' vs, Same F F' → ROs g F' Mv vs tl → Sta g F' M' (jn Mv G) H' σ ts' → Dj Mv G → tks.length = vs.length → (∀ (k i : Nat) v, tks[k]? = some (some i) → vs[k]? = some v → σ[i]? = some (some v)) → Q vs H'
  | .ex c ts' => KX g W F G σ c ts'
def tAr (g : Gx) (W : WX) (tks : List (Option Nat)) (m : M (List T)) : TA := fun σ H Q => ∃ F Mm G ts, Sta g F Mm G H σ ts ∧ KL g W F G σ tks Q (m ts)
theorem jn_swap {A B C : Hp} (d : Dj A B) : jn B (jn A C) = jn (jn A B) C := by
  funext a
  unfold jn
  rcases d a with q | q <;> rw [q] <;> cases A a <;> cases B a <;> rfl
theorem pa_arNil : PA X [] (tAr (gx X) W [] (M.ret [])) := ⟨fun pos pins s σ H Q I h => pa_nil.run pos pins s σ H Q I (by
  obtain ⟨F, Mm, G, ts, st, k⟩ := h
  exact k F em Mm H [] (Same.refl _) .nil st Dj.em_l rfl (fun k i v h => by simp at h))⟩
def argEx (m : M T) (ms : M (List T)) : M (List T) := m >>= fun t => ms >>= fun tl => M.ret (t :: tl)
def live (i : Nat) (ts : List T) : Bool := match ts[i]? with
  | some .gone => false
  | some _ => true
  | none => false
def argTk (i : Nat) (ms : M (List T)) : M (List T) := fun ts => if live i ts = true then (ms >>= fun tl => mv i >>= fun t => M.ret (t :: tl)) ts else .bad
theorem pa_imp {t t' : TA} (h : PA X es t) (i : ∀ σ H Q, t' σ H Q → t σ H Q) : PA X es t' := ⟨fun pos pins s σ H Q I q => h.run pos pins s σ H Q I (i σ H Q q)⟩
theorem pa_arEx {m : M T} {ms : M (List T)} {tks : List (Option Nat)} (h1 : PE X e (tD (gx X) W m)) (h2 : PA X es (tAr (gx X) W tks ms)) (n : nst e = true) : PA X (e :: es) (tAr (gx X) W (none :: tks) (argEx m ms)) :=
  pa_imp (pa_cons h1 h2 (star_of n _ _)) fun σ H Q ⟨F, Mm, G, ts, st, k⟩ => by
    refine tD_then (K := KL (gx X) W F G σ (none :: tks) Q) st id (fun _ _ z => z) k fun t ts1 _ k1 F1 Mv M1 H1 v s1 r st1 dj => ?_
    refine ⟨F1, M1, jn Mv G, ts1, st1, ?_⟩
    cases q : ms ts1 with
    | bad => rw [bind_bad q] at k1; exact k1
    | ex c ts' =>
      rw [bind_ex q] at k1
      intro F' M' H' C s2 st2 hC
      obtain ⟨s3, st3⟩ := st2.freeze dj
      exact k1 _ M' H' C ((s1.trans s2).trans s3) st3 hC
    | ok tl ts2 =>
      rw [bind_ok q] at k1
      intro F2 Mw M2 H2 vs s2 r2 st2 dj2 hl hk
      have d12 : Dj Mv Mw := (dj2.sub (Same.refl _) jn_l).symm
      have dwG : Dj Mw G := dj2.sub (Same.refl _) (jn_r dj)
      rw [jn_swap d12] at st2
      refine k1 F2 (jn Mv Mw) M2 H2 (v :: vs) (s1.trans s2) (.cons (r.mono s2) r2 jn_l (jn_r d12) d12) st2 (dj_jn dj dwG) (by simp [hl]) fun k i u h1 h2 => ?_
      cases k with
      | zero => simp at h1
      | succ k => exact hk k i u (by simpa using h1) (by simpa using h2)
theorem pa_arTk {i : Nat} {x : Str} {ms : M (List T)} {tks : List (Option Nat)} (hN : X.N[i]? = some x) (hv : Vis X.env.scope x) (hd : (x == ("__debug__" : Str)) = false) (hcd : (x == ("__classdict__" : Str)) = false)
    (h2 : PA X es (tAr (gx X) W tks ms)) : PA X (.Name x p :: es) (tAr (gx X) W (some i :: tks) (argTk i ms)) :=
  pa_imp (pa_cons (pe_var hN hv hd hcd) h2 rfl) fun σ H Q ⟨F, Mm, G, ts, st, k⟩ => by
    unfold argTk at k
    split at k
    · rename_i hl
      have : ∃ t, ts[i]? = some t ∧ t ≠ .gone := by
        unfold live at hl
        cases q : ts[i]? with
        | none => rw [q] at hl; cases hl
        | some t => rw [q] at hl; exact ⟨t, rfl, by rintro rfl; cases hl⟩
      obtain ⟨t, q, n⟩ := this
      obtain ⟨v, _, _, _, e1, _⟩ := st.slot q n
      refine ⟨v, e1, F, Mm, G, ts, st, ?_⟩
      cases q2 : ms ts with
      | bad => rw [bind_bad q2] at k; exact k
      | ex c ts' => rw [bind_ex q2] at k; exact k
      | ok tl ts1 =>
        rw [bind_ok q2] at k
        intro F1 Mv M1 H1 vs s1 r1 st1 dj hl1 hk
        have own : ∀ t1 : T, ts1[i]? = some t1 → t1 ≠ .gone → KL (gx X) W F G σ (some i :: tks) Q (.ok (t1 :: tl) (ts1.set i .gone)) → Q (v :: vs) H1 := fun t1 e2 n2 k2 => by
          obtain ⟨u, A, B, e3, r3, st3, d3⟩ := st1.take e2 n2
          rw [e1] at e3
          cases e3
          have dAv : Dj Mv A := (d3.sub (Same.refl _) jn_l).symm
          have dAG : Dj A G := d3.sub (Same.refl _) (jn_r dj)
          have e4 : jn A (jn Mv G) = jn (jn Mv A) G := jn_swap dAv
          rw [e4] at st3
          refine k2 F1 (jn Mv A) B H1 (v :: vs) s1 (.cons r3 r1 (jn_r dAv) jn_l dAv.symm) st3 (dj_jn dj dAG) (by simp [hl1]) fun k j u h1 h2 => ?_
          cases k with
          | zero => simp at h1 h2; subst h1 h2; exact e1
          | succ k => exact hk k j u (by simpa using h1) (by simpa using h2)
        cases q3 : ts1[i]? with
        | none =>
          have : (mv i >>= fun t => M.ret (t :: tl)) ts1 = .bad := bind_bad (by unfold mv; rw [q3])
          rw [this] at k; exact k.elim
        | some t1 =>
          cases t1 with
          | gone =>
            have : (mv i >>= fun t => M.ret (t :: tl)) ts1 = .bad := bind_bad (by unfold mv; rw [q3])
            rw [this] at k; exact k.elim
          | z d =>
            have e5 : (mv i >>= fun t => M.ret (t :: tl)) ts1 = .ok (.z d :: tl) ts1 := bind_ok (by unfold mv; rw [q3])
            rw [e5] at k
            obtain ⟨u, A, B, ws, e3, r3, _⟩ := st1.slot q3 (fun z => nomatch z)
            rw [e1] at e3
            cases e3
            cases r3 with
            | z r3 =>
              refine k F1 Mv M1 H1 (v :: vs) s1 (.cons (M1 := em) (.z r3) r1 Same.empty (Same.refl _) Dj.em_l) st1 dj (by simp [hl1]) fun k j u h1 h2 => ?_
              cases k with
              | zero => simp at h1 h2; subst h1 h2; exact e1
              | succ k => exact hk k j u (by simpa using h1) (by simpa using h2)
          | l ts' =>
            have e5 : (mv i >>= fun t => M.ret (t :: tl)) ts1 = .ok (.l ts' :: tl) (ts1.set i .gone) := bind_ok (by unfold mv; rw [q3])
            rw [e5] at k; exact own _ q3 (fun z => nomatch z) k
          | dk ts' =>
            have e5 : (mv i >>= fun t => M.ret (t :: tl)) ts1 = .ok (.dk ts' :: tl) (ts1.set i .gone) := bind_ok (by unfold mv; rw [q3])
            rw [e5] at k; exact own _ q3 (fun z => nomatch z) k
          | dt ts' =>
            have e5 : (mv i >>= fun t => M.ret (t :: tl)) ts1 = .ok (.dt ts' :: tl) (ts1.set i .gone) := bind_ok (by unfold mv; rw [q3])
            rw [e5] at k; exact own _ q3 (fun z => nomatch z) k
          | ob c ts' =>
            have e5 : (mv i >>= fun t => M.ret (t :: tl)) ts1 = .ok (.ob c ts' :: tl) (ts1.set i .gone) := bind_ok (by unfold mv; rw [q3])
            rw [e5] at k; exact own _ q3 (fun z => nomatch z) k
          | tp ts' =>
            have e5 : (mv i >>= fun t => M.ret (t :: tl)) ts1 = .ok (.tp ts' :: tl) (ts1.set i .gone) := bind_ok (by unfold mv; rw [q3])
            rw [e5] at k; exact own _ q3 (fun z => nomatch z) k
    · exact k.elim
/-! ### displays -/
def tupM (ms : M (List T)) : M T := ms >>= fun tl => match T.fzs tl with
  | some ds => if ds.length ≤ lim then M.ret (.z (.tup ds)) else stop
  | none => stop
theorem pe_tupM {ms : M (List T)} {tks : List (Option Nat)} {k : Nat} (h : PA X es (tAr (gx X) W tks ms)) : PE X (.Tuple es k pos) (tD (gx X) W (tupM ms)) :=
  pe_imp (pe_tup h) fun σ H Q ⟨F, Mm, G, ts, st, k⟩ => by
    refine ⟨F, Mm, G, ts, st, ?_⟩
    cases q : ms ts with
    | bad => rw [show tupM ms ts = .bad from bind_bad q] at k; exact k
    | ex c ts' => rw [show tupM ms ts = .ex c ts' from bind_ex q] at k; exact k
    | ok tl ts1 =>
      have e0 : tupM ms ts = _ := bind_ok q
      rw [e0] at k
      intro F1 Mv M1 H1 vs s1 r1 st1 dj _ _
      cases q2 : T.fzs tl with
      | none => rw [q2] at k; exact k.elim
      | some ds =>
        simp only [q2] at k
        by_cases hl : ds.length ≤ lim
        · rw [if_pos hl] at k
          obtain ⟨s2, st2⟩ := st1.freeze dj
          have ra : RpAll (gx X) (jn F1 Mv) vs ds := r1.fz q2 s2 (jn_r (st1.hc.fg.sub (Same.refl _) jn_l))
          refine ⟨by rw [ra.length]; exact lim_le hl, fun p hp => ?_⟩
          obtain ⟨s3, st3⟩ := st2.newF (o := .tup vs) hp
          exact k _ em M1 _ _ ((s1.trans s2).trans s3) (.z (.tup upd_same (ra.mono s3))) st3 Dj.em_l
        · rw [if_neg hl] at k; exact k.elim
def lstM (ms : M (List T)) : M T := ms >>= fun tl => if tl.length ≤ lim then M.ret (.l tl) else stop
theorem pe_lstM {ms : M (List T)} {tks : List (Option Nat)} (h : PA X es (tAr (gx X) W tks ms)) : PE X (.List es pos) (tD (gx X) W (lstM ms)) :=
  pe_imp (pe_lst h) fun σ H Q ⟨F, Mm, G, ts, st, k⟩ => by
    refine ⟨F, Mm, G, ts, st, ?_⟩
    cases q : ms ts with
    | bad => rw [show lstM ms ts = .bad from bind_bad q] at k; exact k
    | ex c ts' => rw [show lstM ms ts = .ex c ts' from bind_ex q] at k; exact k
    | ok tl ts1 =>
      have e0 : lstM ms ts = _ := bind_ok q
      rw [e0] at k
      intro F1 Mv M1 H1 vs s1 r1 st1 dj _ _
      by_cases hl : tl.length ≤ lim
      · rw [if_pos hl] at k
        refine ⟨by rw [r1.length]; exact lim_le hl, fun p hp => ?_⟩
        have hc := st1.hc
        have vp : Mv p = none := (jn_l.trans hc.gh).free hp
        obtain ⟨st2, dj2⟩ := st1.newO (o := .lst vs) hp
        have d1 : Dj Mv (upd em p (.lst vs)) := (dj_upd_l Dj.em_l vp).symm
        rw [jn_swap d1] at st2
        refine k F1 (jn Mv (upd em p (.lst vs))) M1 _ _ s1 (.l (M' := Mv) (jn_r d1 _ _ upd_same) jn_l vp r1) st2 (dj_jn dj (dj2.sub (Same.refl _) (jn_r dj)))
      · rw [if_neg hl] at k; exact k.elim
/-! ### calls of the text's own defs -/
def spF (g : Gx) (n : Nat) (f : List T → R T) : Sp := fun vs H Q E => vs.length = n ∧ ∃ F Mm G tl, Hc F Mm G H ∧ ROs g F Mm vs tl ∧ match f tl with
  | .bad => False
  | .ok t fins => ∀ F' Mr M' H' v, Same F F' → RO g F' Mr v t → ROs g F' M' vs fins → Hc F' M' (jn Mr G) H' → Dj Mr G → Q v H'
  | .ex c fins => ∀ F' M' H' C, Same F F' → ROs g F' M' vs fins → Hc F' M' G H' → g.mg c = some (.ref C) → E (.ref C) none H'
def T.isZ : T → Bool
  | .z _ => true
  | _ => false
def give1 (o : Option Nat) (t fin : T) (ts : List T) : List T := match o with
  | some i => if t.isZ = true then ts else ts.set i fin
  | none => ts
def giveB : List (Option Nat) → List T → List T → List T → List T
  | [], _, _, ts => ts
  | _ :: _, [], _, ts => ts
  | _ :: _, _ :: _, [], ts => ts
  | o :: tks, t :: tl, fin :: fins, ts => giveB tks tl fins (give1 o t fin ts)
def callM (f : List T → R T) (tks : List (Option Nat)) (ms : M (List T)) : M T := fun ts => match ms ts with
  | .ok tl ts1 => match f tl with
    | .ok t fins => .ok t (giveB tks tl fins ts1)
    | .ex c fins => .ex c (giveB tks tl fins ts1)
    | .bad => .bad
  | .ex c ts1 => .ex c ts1
  | .bad => .bad
theorem giveB_length : ∀ (tks : List (Option Nat)) (tl fins ts : List T), (giveB tks tl fins ts).length = ts.length
  | [], _, _, _ => rfl
  | _ :: _, [], _, _ => rfl
  | _ :: _, _ :: _, [], _ => rfl
  | o :: tks, t :: tl, f :: fins, ts => by
    rw [giveB, giveB_length tks]
    unfold give1
    split
    · split
      · rfl
      · rw [List.length_set]
    · rfl
theorem give_ok {g : Gx} {F : Hp} {σ : L2.St} : ∀ (tks : List (Option Nat)) (tl fins : List T) (us : List V) (M2 : Hp), ROs g F M2 us fins → (∀ (k i : Nat) v, tks[k]? = some (some i) → us[k]? = some v → σ[i]? = some (some v)) →
    ∀ (ts : List T) (vs : List V) (M1 : Hp), ROs g F M1 vs ts → (∀ (i : Nat) (v : V) (t : T), vs[i]? = some v → ts[i]? = some t → t = .gone ∨ σ[i]? = some (some v)) → Dj M1 M2 →
      ∃ vs', ROs g F (jn M1 M2) vs' (giveB tks tl fins ts) ∧ ∀ (i : Nat) (v : V) (t : T), vs'[i]? = some v → (giveB tks tl fins ts)[i]? = some t → t = .gone ∨ σ[i]? = some (some v)
  | [], tl, fins, us, M2, h, hk, ts, vs, M1, r, q, d => ⟨vs, r.ext jn_l, q⟩
  | _ :: _, [], fins, us, M2, h, hk, ts, vs, M1, r, q, d => ⟨vs, r.ext jn_l, q⟩
  | _ :: _, _ :: _, [], us, M2, h, hk, ts, vs, M1, r, q, d => ⟨vs, r.ext jn_l, q⟩
  | o :: tks, t :: tl, fin :: fins, u :: us, M2, .cons (M1 := A) (M2 := B) h1 h2 h3 h4 h5, hk, ts, vs, M1, r, q, d => by
    have hk' : ∀ (k i : Nat) v, tks[k]? = some (some i) → us[k]? = some v → σ[i]? = some (some v) := fun k i v a b => hk (k + 1) i v (by simpa using a) (by simpa using b)
    have dA : Dj M1 A := d.sub (Same.refl _) h3
    have dB : Dj M1 B := d.sub (Same.refl _) h4
    have stay : ∃ vs' , ROs g F (jn M1 A) vs' ts ∧ ∀ (k : Nat) (v : V) (t : T), vs'[k]? = some v → ts[k]? = some t → t = .gone ∨ σ[k]? = some (some v) := ⟨vs, r.ext jn_l, q⟩
    have put : ∃ vs' , ROs g F (jn M1 A) vs' (give1 o t fin ts) ∧ ∀ (k : Nat) (v : V) (t1 : T), vs'[k]? = some v → (give1 o t fin ts)[k]? = some t1 → t1 = .gone ∨ σ[k]? = some (some v) := by
      unfold give1
      cases o with
      | none => exact stay
      | some i =>
        have ei : σ[i]? = some (some u) := hk 0 i u rfl rfl
        simp only
        split
        · exact stay
        · cases e : ts[i]? with
          | none =>
            have : ts.set i fin = ts := List.set_eq_of_length_le (List.getElem?_eq_none_iff.mp e)
            rw [this]; exact stay
          | some t0 =>
            obtain ⟨w, C, E, e1, _, s1, s2, dd, back⟩ := r.pick e
            exact ⟨vs.set i u, back F A u fin (jn M1 A) (Same.refl _) h1 (dA.symm.sub (Same.refl _) s2) (jn_r dA) (s2.trans jn_l), set_slots q ei⟩
    obtain ⟨vs1, r1, q1⟩ := put
    obtain ⟨vs', r', q'⟩ := give_ok tks tl fins us B h2 hk' (give1 o t fin ts) vs1 (jn M1 A) r1 q1 (dj_jn dB h5)
    exact ⟨vs', r'.ext (jn_sub (jn_sub jn_l (h3.trans (jn_r d))) (h4.trans (jn_r d))), q'⟩
/-- the call, by the reading of its arguments -/
theorem call_ok {f : List T → R T} {tks : List (Option Nat)} {ms : M (List T)} {σ : L2.St} {H : Hp} {Q : VK} {n : Nat} (hn : tks.length = n) (h : tD (gx X) W (callM f tks ms) σ H Q) :
    tAr (gx X) W tks ms σ H fun vs H1 => spF (gx X) n f vs H1 Q (WE W σ) := by
  obtain ⟨F, Mm, G, ts, st, k⟩ := h
  refine ⟨F, Mm, G, ts, st, ?_⟩
  change KD (gx X) W F G σ Q (callM f tks ms ts) at k
  unfold callM at k
  cases q : ms ts with
  | bad => rw [q] at k; exact k
  | ex c ts1 => rw [q] at k; exact k
  | ok tl ts1 =>
    simp only [q] at k
    intro F1 Mv M1 H1 vs s1 r1 st1 dj hl hk
    have hc := st1.hc
    have dM1v : Dj M1 Mv := hc.mg.sub (Same.refl _) jn_l
    have dM1G : Dj M1 G := hc.mg.sub (Same.refl _) (jn_r dj)
    have dF1v : Dj F1 Mv := hc.fg.sub (Same.refl _) jn_l
    have dF1G : Dj F1 G := hc.fg.sub (Same.refl _) (jn_r dj)
    obtain ⟨ws, rw', qw⟩ := st1.vs
    refine ⟨hl.symm.trans hn, F1, Mv, jn M1 G, tl, ⟨hc.fh, jn_l.trans hc.gh, jn_sub hc.mh ((jn_r dj).trans hc.gh), dF1v, dj_jn_r hc.fm dF1G, dj_jn_r dM1v.symm dj, hc.ft⟩, r1, ?_⟩
    cases q2 : f tl with
    | bad => simp only [q2] at k; exact k
    | ok t fins =>
      simp only [q2] at k
      intro F2 Mr M2 H2 v s2 r2 rf hc2 dr
      have dr1 : Dj Mr M1 := dr.sub (Same.refl _) jn_l
      have drG : Dj Mr G := dr.sub (Same.refl _) (jn_r dM1G)
      have d2r : Dj M2 Mr := hc2.mg.sub (Same.refl _) jn_l
      have d21 : Dj M2 M1 := hc2.mg.sub (Same.refl _) (jn_l.trans (jn_r dr))
      have d2G : Dj M2 G := hc2.mg.sub (Same.refl _) ((jn_r dM1G).trans (jn_r dr))
      have hM1 : Same M1 H2 := (jn_l.trans (jn_r dr)).trans hc2.gh
      have hG : Same G H2 := ((jn_r dM1G).trans (jn_r dr)).trans hc2.gh
      obtain ⟨vs', r', q'⟩ := give_ok tks tl fins vs M2 rf hk ts1 ws M1 (rw'.mono s2) qw d21.symm
      refine k F2 Mr (jn M1 M2) H2 v (s1.trans s2) r2 ⟨?_, ⟨vs', r', q'⟩, ?_⟩ drG
      · exact ⟨hc2.fh, jn_sub hM1 hc2.mh, jn_sub (jn_l.trans hc2.gh) hG, dj_jn_r (hc2.fg.sub (Same.refl _) (jn_l.trans (jn_r dr))) hc2.fm, dj_jn_r (hc2.fg.sub (Same.refl _) jn_l) (hc2.fg.sub (Same.refl _) ((jn_r dM1G).trans (jn_r dr))),
          dj_jn (dj_jn_r dr1.symm dM1G) (dj_jn_r d2r d2G), hc2.ft⟩
      · rw [giveB_length]; exact st1.len
    | ex c fins =>
      simp only [q2] at k
      intro F2 M2 H2 C s2 rf hc2 hC
      have d21 : Dj M2 M1 := hc2.mg.sub (Same.refl _) jn_l
      have d2G : Dj M2 G := hc2.mg.sub (Same.refl _) (jn_r dM1G)
      obtain ⟨vs', r', q'⟩ := give_ok tks tl fins vs M2 rf hk ts1 ws M1 (rw'.mono s2) qw d21.symm
      refine k F2 (jn M1 M2) H2 C (s1.trans s2) ⟨?_, ⟨vs', r', q'⟩, ?_⟩ hC
      · exact ⟨hc2.fh, jn_sub (jn_l.trans hc2.gh) hc2.mh, (jn_r dM1G).trans hc2.gh, dj_jn_r (hc2.fg.sub (Same.refl _) jn_l) hc2.fm, hc2.fg.sub (Same.refl _) (jn_r dM1G), dj_jn dM1G d2G, hc2.ft⟩
      · rw [giveB_length]; exact st1.len
/-- f(e, ..) -/
theorem pe_callM {k : Nat} {fa : Addr} {fd : FuncData} {ps : List Str} {f : List T → R T} {x : Str} {tks : List (Option Nat)} {ms : M (List T)}
    (F : FnOk X.prog X.w X.K X.mg X.base (L2.CX X.prog X.w) k fa fd ps (spF (gx X) ps.length f)) (hr : Room k X.A) (hg : Gl X x) (hm : X.mg x = some (.ref fa)) (hk : PySem.W.keepIn X.K (.ref fa) = true) (hb : Binds X.K fd ps [])
    (tk : Takes X W) (ha : PA X (e :: es) (tAr (gx X) W tks ms)) (hl : tks.length = ps.length) (hd : (x == ("__debug__" : Str)) = false) (n : (e :: es).all nst = true) :
    PE X (.Call (.Name x p) (e :: es) [] pos) (tD (gx X) W (callM f tks ms)) := by
  rw [List.all_cons, Bool.and_eq_true] at n
  exact pe_imp (pe_callS F hr hg hm hk hb (fun σ => passAt tk σ) ha hd (star_of n.1 _ _) (star_all n.2 _ _)) fun σ H Q h => call_ok hl h
end
end Ar
/-! ArH: statements and blocks. -/
namespace Ar
open PySem PySem.Spec PyProof.Rows L2

inductive RS where
  | nx (ts : List T) | rt (t : T) (ts : List T) | bk (ts : List T) | ct (ts : List T) | ex (c : Str) (ts : List T) | bad
abbrev S := List T → RS
def Pin (bs : List Nat) (σ σ' : L2.St) : Prop := ∀ i ∈ bs, σ'[i]? = σ[i]?
theorem Pin.refl {bs : List Nat} {σ : L2.St} : Pin bs σ σ := fun _ _ => rfl
theorem Pin.trans {bs : List Nat} {σ σ1 σ2 : L2.St} (a : Pin bs σ σ1) (b : Pin bs σ1 σ2) : Pin bs σ σ2 := fun i h => (b i h).trans (a i h)
theorem Pin.set {bs : List Nat} {σ : L2.St} {i : Nat} {v : Option V} (h : i ∉ bs) : Pin bs σ (σ.set i v) := fun k hk => List.getElem?_set_ne (by intro e; subst e; exact h hk)
def KS (g : Gx) (W : WX) (bs : List Nat) (F G : Hp) (σ : L2.St) (D : Ends) (r : RS) : Prop := match r with
  | .bad => False
  | .nx ts' => ∀ F' M' H' σ', Same F F' → Sta g F' M' G H' σ' ts' → Pin bs σ σ' → D.nx σ' H'
  | .bk ts' => ∀ F' M' H' σ', Same F F' → Sta g F' M' G H' σ' ts' → Pin bs σ σ' → D.bk σ' H'
  | .ct ts' => ∀ F' M' H' σ', Same F F' → Sta g F' M' G H' σ' ts' → Pin bs σ σ' → D.ct σ' H'
  | .rt t ts' => ∀ F' Mv M' H' σ' v, Same F F' → RO g F' Mv v t → Sta g F' M' (jn Mv G) H' σ' ts' → Dj Mv G → Pin bs σ σ' → D.rt v H'
  | .ex c ts' => ∀ F' M' H' σ' C, Same F F' → Sta g F' M' G H' σ' ts' → Pin bs σ σ' → g.mg c = some (.ref C) → W (.ref C) none σ' H'
def tS (g : Gx) (W : WX) (bs : List Nat) (m : S) : TS := fun D σ H => ∃ F Mm G ts, Sta g F Mm G H σ ts ∧ KS g W bs F G σ D (m ts)
/-- an expression, then what is done with it -/
def bindS {α : Type} (m : M α) (f : α → S) : S := fun ts => match m ts with
  | .ok a ts' => f a ts'
  | .ex c ts' => .ex c ts'
  | .bad => .bad
def sq (m n : S) : S := fun ts => match m ts with
  | .nx ts' => n ts'
  | r => r
theorem ps_imp {X : Cx} {st : Stmt} {t t' : TS} (h : PS X st t) (i : ∀ D σ H, t' D σ H → t D σ H) : PS X st t' := ⟨fun pins s σ H D I q => h.run pins s σ H D I (i D σ H q)⟩
theorem pss_imp {X : Cx} {st : List Stmt} {t t' : TS} (h : PSs X st t) (i : ∀ D σ H, t' D σ H → t D σ H) : PSs X st t' := ⟨fun pins s σ H D I q => h.run pins s σ H D I (i D σ H q)⟩
section
variable {g : Gx} {W : WX} {bs : List Nat} {F F1 G G1 : Hp} {σ σ1 : L2.St} {D : Ends} {r : RS}
theorem KS.mono (h : KS g W bs F G σ D r) (s : Same F F1) (p : Pin bs σ σ1) : KS g W bs F1 G σ1 D r := by
  cases r with
  | bad => exact h
  | nx ts => exact fun F' M' H' σ' s1 st q => h F' M' H' σ' (s.trans s1) st (p.trans q)
  | bk ts => exact fun F' M' H' σ' s1 st q => h F' M' H' σ' (s.trans s1) st (p.trans q)
  | ct ts => exact fun F' M' H' σ' s1 st q => h F' M' H' σ' (s.trans s1) st (p.trans q)
  | rt t ts => exact fun F' Mv M' H' σ' v s1 r st d q => h F' Mv M' H' σ' v (s.trans s1) r st d (p.trans q)
  | ex c ts => exact fun F' M' H' σ' C s1 st q => h F' M' H' σ' C (s.trans s1) st (p.trans q)
theorem KS.kx {c : Str} {ts : List T} (h : KS g W bs F G σ D (.ex c ts)) : KX g W F G σ c ts := fun F' M' H' C s st e => h F' M' H' σ C s st Pin.refl e
theorem tD_S {m : M T} {f : T → S} {Mm H : Hp} {ts : List T} {Q : VK} (st : Sta g F Mm G H σ ts) (h : KS g W bs F G σ D (bindS m f ts))
    (go : ∀ t ts', m ts = .ok t ts' → KS g W bs F G σ D (f t ts') → ∀ F' Mv M' H' v, Same F F' → RO g F' Mv v t → Sta g F' M' (jn Mv G) H' σ ts' → Dj Mv G → Q v H') : tD g W m σ H Q := by
  refine ⟨F, Mm, G, ts, st, ?_⟩
  unfold bindS at h
  cases e : m ts with
  | bad => rw [e] at h; exact h
  | ex c ts' => rw [e] at h; exact h.kx
  | ok t ts' => rw [e] at h; exact go t ts' e h
theorem tB_S {m : M Bool} {f : Bool → S} {Mm H : Hp} {ts : List T} {Q : Bool → Hp → Prop} (st : Sta g F Mm G H σ ts) (h : KS g W bs F G σ D (bindS m f ts))
    (go : ∀ t ts', m ts = .ok t ts' → KS g W bs F G σ D (f t ts') → ∀ F' M' H', Same F F' → Sta g F' M' G H' σ ts' → Q t H') : tB g W m σ H Q := by
  refine ⟨F, Mm, G, ts, st, ?_⟩
  unfold bindS at h
  cases e : m ts with
  | bad => rw [e] at h; exact h
  | ex c ts' => rw [e] at h; exact h.kx
  | ok t ts' => rw [e] at h; exact go t ts' e h
/-- a slot is stored -/
theorem Sta.assign {Mm Mv H : Hp} {ts : List T} {i : Nat} {v : V} {t : T} (st : Sta g F Mm (jn Mv G) H σ ts) (r : RO g F Mv v t) (d : Dj Mv G) (hi : i < ts.length) :
    ∃ M', Sta g F M' G H (σ.set i (some v)) (ts.set i t) := by
  obtain ⟨vs, rs, q⟩ := st.vs
  have hc := st.hc
  have e : ts[i]? = some ts[i] := List.getElem?_eq_getElem hi
  obtain ⟨w, M1, M2, e1, _, s1, s2, dd, back⟩ := rs.pick e
  have dv2 : Dj Mv M2 := (hc.mg.sub s2 jn_l).symm
  refine ⟨jn Mv M2, ⟨jn_sub hc.fh hc.fh |> fun _ => hc.fh, jn_sub (jn_l.trans hc.gh) (s2.trans hc.mh), (jn_r d).trans hc.gh, dj_jn_r (hc.fg.sub (Same.refl _) jn_l) (hc.fm.sub (Same.refl _) s2), hc.fg.sub (Same.refl _) (jn_r d), dj_jn d (hc.mg.sub s2 (jn_r d)), hc.ft⟩, ⟨_, back F Mv v t (jn Mv M2) (Same.refl _) r dv2 jn_l (jn_r dv2), ?_⟩, by rw [List.length_set, List.length_set]; exact st.len⟩
  intro k u t' h1 h2
  by_cases hk : i = k
  · subst hk
    have l1 : i < vs.length := by rw [rs.length]; exact hi
    rw [List.getElem?_set_self l1] at h1
    cases h1
    exact .inr (List.getElem?_set_self (by rw [st.len]; exact hi))
  · rw [List.getElem?_set_ne hk] at h1 h2
    rw [List.getElem?_set_ne hk]
    exact q k u t' h1 h2
theorem Sta.assignZ {Mm H : Hp} {ts : List T} {i : Nat} {v : V} {d : Ar.D} (st : Sta g F Mm G H σ ts) (r : Rp g F v d) (hi : i < ts.length) : ∃ M', Sta g F M' G H (σ.set i (some v)) (ts.set i (.z d)) :=
  Sta.assign (Mv := em) st (.z r) Dj.em_l hi
end

/-! ### blocks, if, return, raise -/
section
variable {X : Cx} {W : WX} {bs : List Nat} {e c : Expr} {st : Stmt} {rest a b : List Stmt} {pos pos' : Pos} {m n : S}
theorem pss_nilS : PSs X [] (tS (gx X) W bs RS.nx) := pss_imp pss_nil fun D σ H ⟨F, Mm, G, ts, sa, k⟩ => k F Mm H σ (Same.refl _) sa Pin.refl
theorem pss_consS (h1 : PS X st (tS (gx X) W bs m)) (h2 : PSs X rest (tS (gx X) W bs n)) : PSs X (st :: rest) (tS (gx X) W bs (sq m n)) :=
  pss_imp (pss_cons h1 h2) fun D σ H ⟨F, Mm, G, ts, sa, k⟩ => by
    refine ⟨F, Mm, G, ts, sa, ?_⟩
    unfold sq at k
    cases e : m ts with
    | nx ts' =>
      rw [e] at k
      exact fun F' M' H' σ' s st' p => ⟨F', M', G, ts', st', KS.mono k s p⟩
    | bad => rw [e] at k; exact k
    | bk ts' => rw [e] at k; exact k
    | ct ts' => rw [e] at k; exact k
    | rt t ts' => rw [e] at k; exact k
    | ex c ts' => rw [e] at k; exact k
def ifS (c : M Bool) (m n : S) : S := bindS c fun b => if b = true then m else n
theorem ps_ifS {mc : M Bool} (h0 : PT X c (tB (gx X) W mc)) (h1 : PSs X a (tS (gx X) W bs m)) (h2 : PSs X b (tS (gx X) W bs n)) : PS X (.If c a b pos) (tS (gx X) W bs (ifS mc m n)) :=
  ps_imp (ps_if h0 h1 h2) fun D σ H ⟨F, Mm, G, ts, sa, k⟩ => tB_S sa k fun b ts1 _ k1 F1 M1 H1 s1 st1 => by
    cases b with
    | true => exact ⟨F1, M1, G, ts1, st1, KS.mono k1 s1 Pin.refl⟩
    | false => exact ⟨F1, M1, G, ts1, st1, KS.mono k1 s1 Pin.refl⟩
def retS (m : M T) : S := bindS m fun t => RS.rt t
theorem ps_retS {m : M T} (h : PE X e (tD (gx X) W m)) : PS X (.Return (some e) pos) (tS (gx X) W bs (retS m)) :=
  ps_imp (ps_ret h) fun D σ H ⟨F, Mm, G, ts, sa, k⟩ => tD_S sa k fun t ts1 _ k1 F1 Mv M1 H1 v s1 r st1 dj => k1 F1 Mv M1 H1 σ v s1 r st1 dj Pin.refl
def exprS (m : M T) : S := bindS m fun _ => RS.nx
theorem Sta.drop {g : Gx} {F Mm Mv G H : Hp} {σ : L2.St} {ts : List T} (st : Sta g F Mm (jn Mv G) H σ ts) (d : Dj Mv G) : Sta g F Mm G H σ ts := by
  have hc := st.hc
  exact ⟨⟨hc.fh, hc.mh, (jn_r d).trans hc.gh, hc.fm, hc.fg.sub (Same.refl _) (jn_r d), hc.mg.sub (Same.refl _) (jn_r d), hc.ft⟩, st.vs, st.len⟩
theorem ps_exprS {m : M T} (h : PE X e (tD (gx X) W m)) (hs : swapsWith e none pos.line X.env = pure false) : PS X (.Expr e pos) (tS (gx X) W bs (exprS m)) :=
  ps_imp (ps_expr h hs) fun D σ H ⟨F, Mm, G, ts, sa, k⟩ => tD_S sa k fun t ts1 _ k1 F1 Mv M1 H1 v s1 r st1 dj => k1 F1 M1 H1 σ s1 (st1.drop dj) Pin.refl
/-- x = e -/
def setS (i : Nat) (m : M T) : S := bindS m fun t ts => if i < ts.length then .nx (ts.set i t) else .bad
theorem ps_setS {i : Nat} {x : Str} {m : M T} (h : PE X e (tD (gx X) W m)) (hN : X.N.Nodup) (hi : X.N[i]? = some x) (hx : Loc X.env.scope x) (hs : swapsWith e (some (.Name x pos')) pos.line X.env = pure false) (hf : X.fn x = true ∨ X.env.scope.names.lookup x = some .local) (hb : i ∉ bs) :
    PS X (.Assign [.Name x pos'] e pos) (tS (gx X) W bs (setS i m)) :=
  ps_imp (ps_set hN hi hx h hs hf) fun D σ H ⟨F, Mm, G, ts, sa, k⟩ => tD_S sa k fun t ts1 _ k1 F1 Mv M1 H1 v s1 r st1 dj => by
    by_cases hl : i < ts1.length
    · rw [if_pos hl] at k1
      obtain ⟨M', st2⟩ := st1.assign r dj hl
      exact k1 F1 M' H1 _ s1 st2 (Pin.set hb)
    · rw [if_neg hl] at k1; exact k1.elim
/-- targets of frozen things -/
inductive Tg where
  | n (i : Nat) | t (l : List Tg)
def tupOf : Ar.D → Option (List Ar.D)
  | .tup ds => some ds
  | _ => none
mutual
def Tg.put : Tg → Ar.D → List T → Option (List T)
  | .n i, d, ts => if i < ts.length then some (ts.set i (.z d)) else none
  | .t l, d, ts => match tupOf d with
    | some ds => Tg.puts l ds ts
    | none => none
def Tg.puts : List Tg → List Ar.D → List T → Option (List T)
  | [], [], ts => some ts
  | g :: gs, d :: ds, ts => match Tg.put g d ts with
    | some ts' => Tg.puts gs ds ts'
    | none => none
  | _, _, _ => none
end
def gD (g : Gx) (bs : List Nat) (m : Ar.D → List T → Option (List T)) : TG := fun v σ H Q => ∃ F Mm G ts d ts', Sta g F Mm G H σ ts ∧ Rp g F v d ∧ m d ts = some ts' ∧ ∀ M' σ', Sta g F M' G H σ' ts' → Pin bs σ σ' → Q σ' H
def gDs (g : Gx) (bs : List Nat) (m : List Ar.D → List T → Option (List T)) : TGs := fun vs σ H Q => ∃ F Mm G ts ds ts', Sta g F Mm G H σ ts ∧ RpAll g F vs ds ∧ m ds ts = some ts' ∧ ∀ M' σ', Sta g F M' G H σ' ts' → Pin bs σ σ' → Q σ' H
theorem pg_imp {tg : Expr} {t t' : TG} (h : PG X tg t) (i : ∀ v σ H Q, t' v σ H Q → t v σ H Q) : PG X tg t' := ⟨fun pins s σ H v u Q I r q => h.run pins s σ H v u Q I r (i v σ H Q q)⟩
theorem pgs_imp {tg : List Expr} {t t' : TGs} (h : PGs X tg t) (i : ∀ v σ H Q, t' v σ H Q → t v σ H Q) : PGs X tg t' := ⟨fun pins s σ H v u Q I r q => h.run pins s σ H v u Q I r (i v σ H Q q)⟩
theorem pg_n {i : Nat} {x : Str} (hN : X.N.Nodup) (hi : X.N[i]? = some x) (hx : Loc X.env.scope x) (hf : X.fn x = true ∨ X.env.scope.names.lookup x = some .local) (hb : i ∉ bs) : PG X (.Name x pos) (gD (gx X) bs (Tg.n i).put) :=
  pg_imp (pg_name hN hi hx hf) fun v σ H Q ⟨F, Mm, G, ts, d, ts', sa, r, e, q⟩ => by
    rw [Tg.put] at e
    split at e
    · rename_i hl
      cases e
      obtain ⟨M', st2⟩ := sa.assignZ r hl
      exact q M' _ st2 (Pin.set hb)
    · cases e
theorem pgs_nilD : PGs X [] (gDs (gx X) bs (Tg.puts [])) := pgs_imp pgs_nil fun vs σ H Q ⟨F, Mm, G, ts, ds, ts', sa, r, e, q⟩ => by
  cases ds with
  | nil => rw [Tg.puts] at e; cases e; cases r; exact ⟨rfl, q Mm σ sa Pin.refl⟩
  | cons _ _ => rw [Tg.puts] at e; cases e; all_goals simp
theorem pgs_consD {g : Tg} {gs : List Tg} {es : List Expr} (h1 : PG X e (gD (gx X) bs g.put)) (h2 : PGs X es (gDs (gx X) bs (Tg.puts gs))) (hs : (assignEach (e :: es) X.env).map (·.2) = assign e X.env :: (assignEach es X.env).map (·.2)) :
    PGs X (e :: es) (gDs (gx X) bs (Tg.puts (g :: gs))) := pgs_imp (pgs_cons h1 h2 hs) fun vs σ H Q ⟨F, Mm, G, ts, ds, ts', sa, r, e, q⟩ => by
  cases r with
  | nil => rw [Tg.puts] at e; cases e; all_goals simp
  | @cons v vs d ds r1 r2 =>
    rw [Tg.puts] at e
    cases e1 : g.put d ts with
    | none => rw [e1] at e; cases e
    | some ts1 =>
      rw [e1] at e
      exact ⟨v, vs, rfl, F, Mm, G, ts, d, ts1, sa, r1, e1, fun M1 σ1 st1 p1 => ⟨F, M1, G, ts1, ds, ts', st1, r2, e, fun M2 σ2 st2 p2 => q M2 σ2 st2 (p1.trans p2)⟩⟩
theorem puts_length : ∀ {gs : List Tg} {ds : List Ar.D} {ts ts' : List T}, Tg.puts gs ds ts = some ts' → ds.length = gs.length
  | [], [], _, _, _ => rfl
  | g :: gs, d :: ds, ts, ts', e => by
    rw [Tg.puts] at e
    cases e1 : g.put d ts with
    | none => rw [e1] at e; cases e
    | some ts1 => rw [e1] at e; rw [List.length_cons, List.length_cons, puts_length e]
  | [], _ :: _, _, _, e => by rw [Tg.puts] at e; cases e; all_goals simp
  | _ :: _, [], _, _, e => by rw [Tg.puts] at e; cases e; all_goals simp
theorem pg_t {gs : List Tg} {es : List Expr} {k : Nat} (hc : X.calm = true) (h : PGs X es (gDs (gx X) bs (Tg.puts gs))) (hn : (assignEach es X.env).length = gs.length) (hst : (assignEach es X.env).findIdx? (·.1) = none) :
    PG X (.Tuple es k pos) (gD (gx X) bs (Tg.t gs).put) := pg_imp (pg_tup hc h hn hst) fun v σ H Q ⟨F, Mm, G, ts, d, ts', sa, r, e, q⟩ => by
  rw [Tg.put] at e
  cases d with
  | tup ds =>
    replace e : Tg.puts gs ds ts = some ts' := e
    cases r with
    | tup hs ra =>
      exact ⟨_, _, rfl, .of (sa.hc.fh _ _ hs), by rw [ra.length]; exact puts_length e, F, Mm, G, ts, ds, ts', sa, ra, e, q⟩
    | ktup hs _ ra =>
      exact ⟨_, _, rfl, Same.seqT Same.empty hs, by rw [ra.length]; exact puts_length e, F, Mm, G, ts, ds, ts', sa, ra, e, q⟩
  | _ => cases e
/-- x op= e, whole numbers -/
def augS (i : Nat) (f : Int → Int → Int) (m : M Ar.D) : S := fun ts => match ts[i]? with
  | some (.z (.int a)) => bindS m (fun d ts' => match d with
    | .int b => if i < ts'.length then .nx (ts'.set i (.z (.int (f a b)))) else .bad
    | _ => .bad) ts
  | _ => .bad
/-- raise C('..') -/
theorem ps_raiseS {c : Str} {C : Addr} {ec : Expr} (hc : X.calm = true) (tk : Takes X W) (he : PMk X ec (fun _ H Q => Q (.ref C) none H)) (hC : X.mg c = some (.ref C)) : PS X (.Raise (some ec) none pos) (tS (gx X) W bs (RS.ex c)) :=
  ps_imp (ps_raise hc tk he) fun D σ H ⟨F, Mm, G, ts, sa, k⟩ => k F Mm H σ C (Same.refl _) sa Pin.refl hC
end
end Ar
/-! ArI: what is walked; for, while, comprehensions. -/
namespace Ar
open PySem PySem.Spec PyProof.Rows L2

/-- an iterator that yields ds, one by one, whatever is frozen meanwhile -/
structure Src (g : Gx) (F1 : Hp) (J : It) (ds : List D) : Prop where
  go : ∀ i F Mm G H σ ts, Same F1 F → Sta g F Mm G H σ ts → i < ds.length → J.go i H
  stop : ∀ i F Mm G H σ ts, Same F1 F → Sta g F Mm G H σ ts → i = ds.length → J.stop i H
  yld : ∀ i d F Mm G H σ ts x H', Same F1 F → Sta g F Mm G H σ ts → ds[i]? = some d → J.yld i H x H' → ∃ F2, Same F F2 ∧ Rp g F2 x d ∧ Sta g F2 Mm G H' σ ts
theorem Src.mono {g : Gx} {F1 F2 : Hp} {J : It} {ds : List D} (s : Src g F1 J ds) (h : Same F1 F2) : Src g F2 J ds :=
  ⟨fun i F Mm G H σ ts a => s.go i F Mm G H σ ts (h.trans a), fun i F Mm G H σ ts a => s.stop i F Mm G H σ ts (h.trans a), fun i d F Mm G H σ ts x H' a => s.yld i d F Mm G H σ ts x H' (h.trans a)⟩
def KI (g : Gx) (W : WX) (F G : Hp) (σ : L2.St) (Rr : It → Hp → Prop) (r : R (List D)) : Prop := match r with
  | .bad => False
  | .ok ds ts' => ∀ F' M' H' J, Same F F' → Sta g F' M' G H' σ ts' → Src g F' J ds → Rr J H'
  | .ex c ts' => KX g W F G σ c ts'
def tI (g : Gx) (W : WX) (m : M (List D)) : TI := fun σ H Rr => ∃ F Mm G ts, Sta g F Mm G H σ ts ∧ KI g W F G σ Rr (m ts)
theorem pi_imp {X : Cx} {tg e : Expr} {t t' : TI} (h : PI X tg e t) (i : ∀ σ H Rr, t' σ H Rr → t σ H Rr) : PI X tg e t' := ⟨fun pins s σ H Rr I q => h.run pins s σ H Rr I (i σ H Rr q)⟩
section
variable {X : Cx} {W : WX} {tg l e e2 : Expr} {pos p tpos : Pos} {g : Gx}
def iSeq (K : PySem.W.Frag) (tl : TE) : TI := fun σ H Rr => tl σ H fun x H1 => ∃ a, x = .ref a ∧ ((∃ xs, SqL K H1 a xs ∧ Rr (Itl K a) H1) ∨ ∃ xs, SqT K H1 a xs ∧ Rr (Itt K a) H1)
theorem pi_seq {tl : TE} (hl : PE X l tl) : PI X tg l (iSeq X.K tl) := by
  refine ⟨fun pins s σ H Rr I h => ?_⟩
  refine thn (hl.run pins s σ H _ I h) fun v s1 ⟨x, H1, I1, r1, a, e1, q1⟩ => ?_
  subst e1
  cases r1
  have fresh : ∀ b, b ∈ [s1.heap.objs.size] → FpOk X pins H1 b := fun b hb => by
    rw [List.mem_singleton] at hb
    rw [hb]
    exact I1.fpOk (Nat.le_refl _) (I1.hok.fresh (Nat.le_refl _))
  rcases q1 with ⟨xs, hq, q⟩ | ⟨xs, hq, q⟩
  · obtain ⟨its, rv, pl, hz⟩ := I1.list hq
    exact wpAny_pyIter_list pl.isList ⟨_, [s1.heap.objs.size], _, _, H1, rfl, I1.kept (t' := s1.toks) fun b o z => Heap.get?_push_of_some _ z, turn_list a _, ⟨_, Heap.get?_push_size _ rfl, rfl, rfl⟩, fresh, q⟩
  · obtain ⟨its, rv, pl, hz⟩ := I1.tuple hq
    exact wpAny_pyIter_tuple (show s1.heap.IsTuple a its.toArray from pl) ⟨_, [s1.heap.objs.size], _, _, H1, rfl, I1.kept (t' := s1.toks) fun b o z => Heap.get?_push_of_some _ z, turn_tuple a _, ⟨_, Heap.get?_push_size _ rfl, rfl, rfl⟩, fresh, q⟩
theorem src_list {F1 : Hp} {a : Addr} {xs : List V} {ds : List D} (h : SqL g.K F1 a xs) (r : RpAll g F1 xs ds) : Src g F1 (Itl g.K a) ds where
  go := fun i F Mm G H σ ts s st hi => by
    obtain ⟨x, e, _⟩ := r.get (List.getElem?_eq_getElem hi)
    exact ⟨xs, x, (s.trans st.hc.fh).seq h, e⟩
  stop := fun i F Mm G H σ ts s st hi => ⟨xs, (s.trans st.hc.fh).seq h, by rw [r.length, hi]; exact Nat.le_refl _⟩
  yld := fun i d F Mm G H σ ts x H' s st hd ⟨e, y⟩ => by
    subst e
    obtain ⟨v, e1, rv⟩ := r.get hd
    have e2 := y xs ((s.trans st.hc.fh).seq h)
    rw [e1] at e2; cases e2
    exact ⟨F, Same.refl _, rv.mono s, st⟩
theorem src_tup {F1 : Hp} {a : Addr} {xs : List V} {ds : List D} (h : SqT g.K F1 a xs) (r : RpAll g F1 xs ds) : Src g F1 (Itt g.K a) ds where
  go := fun i F Mm G H σ ts s st hi => by
    obtain ⟨x, e, _⟩ := r.get (List.getElem?_eq_getElem hi)
    exact ⟨xs, x, Same.seqT (s.trans st.hc.fh) h, e⟩
  stop := fun i F Mm G H σ ts s st hi => ⟨xs, Same.seqT (s.trans st.hc.fh) h, by rw [r.length, hi]; exact Nat.le_refl _⟩
  yld := fun i d F Mm G H σ ts x H' s st hd ⟨e, y⟩ => by
    subst e
    obtain ⟨v, e1, rv⟩ := r.get hd
    have e2 := y xs (Same.seqT (s.trans st.hc.fh) h)
    rw [e1] at e2; cases e2
    exact ⟨F, Same.refl _, rv.mono s, st⟩
def itemsOf : D → Option (List D)
  | .lst l => some l
  | .tup l => some l
  | .scr l => some (l.map .int)
  | _ => none
theorem pi_seqM {m : M D} (h : PE X l (tZ (gx X) W m)) : PI X tg l (tI (gx X) W (m >>= fun d => opt (itemsOf d))) :=
  pi_imp (pi_seq h) fun σ H Rr ⟨F, Mm, G, ts, st, k⟩ => by
    refine tZ_then (K := KI (gx X) W F G σ Rr) st id (fun _ _ z => z) k fun d ts1 _ k1 F1 M1 H1 v s1 r1 st1 => ?_
    cases r1 with
    | lst h r => exact ⟨_, rfl, .inl ⟨_, .of (st1.hc.fh _ _ h), k1 F1 M1 H1 _ s1 st1 (src_list (.of h) r)⟩⟩
    | tup h r => exact ⟨_, rfl, .inr ⟨_, .of (st1.hc.fh _ _ h), k1 F1 M1 H1 _ s1 st1 (src_tup (.of h) r)⟩⟩
    | ktup h _ r => exact ⟨_, rfl, .inr ⟨_, Same.seqT Same.empty h, k1 F1 M1 H1 _ s1 st1 (src_tup (Same.seqT Same.empty h) r)⟩⟩
    | scr h => exact ⟨_, rfl, .inl ⟨_, Same.seq st1.hc.fh h, k1 F1 M1 H1 _ s1 st1 (src_list h (RpAll.ints _))⟩⟩
    | _ => exact k1.elim
def upto (lo hi : Int) : List D := (List.range (hi - lo).toNat).map fun (k : Nat) => D.int (lo + k)
theorem src_range {F1 : Hp} {lo : Int} {n : Nat} : Src g F1 (Itr lo n) ((List.range n).map fun (k : Nat) => D.int (lo + k)) where
  go := fun i F Mm G H σ ts s st hi => by
    have : i < n := by simpa using hi
    exact this
  stop := fun i F Mm G H σ ts s st hi => by
    show n ≤ i
    rw [hi]; simp
  yld := fun i d F Mm G H σ ts x H' s st hd ⟨e, y⟩ => by
    subst e y
    rw [List.getElem?_map] at hd
    cases q : (List.range n)[i]? with
    | none => rw [q] at hd; cases hd
    | some k =>
      rw [q] at hd; cases hd
      have : k = i := by
        have := List.getElem?_eq_some_iff.mp q
        obtain ⟨h1, h2⟩ := this
        simpa using h2.symm
      subst this
      exact ⟨F, Same.refl _, .int _, st⟩
def big62 (i : Int) : Prop := -4611686018427387904 ≤ i ∧ i < 4611686018427387904
instance (i : Int) : Decidable (big62 i) := by unfold big62; infer_instance
def rng1 (d : D) : Option (List D) := match toI d with | some j => if big62 j then some (upto 0 j) else none | none => none
def rng2 (d e : D) : Option (List D) := match toI d, toI e with | some i, some j => if big62 i ∧ big62 j then some (upto i j) else none | _, _ => none
theorem pi_rng1 {m : M D} (hg : Gl X "range") (hm : X.mg "range" = none) (h : PE X e (tV (gx X) W m)) (n : nst e = true) : PI X tg (.Call (.Name "range" p) [e] [] pos) (tI (gx X) W (m >>= fun d => opt (rng1 d))) :=
  pi_imp (pi_range1 hg hm (pa_cons h pa_nil (star_of n _ _)) (star_of n _ _)) fun σ H Rr ⟨F, Mm, G, ts, st, k⟩ => by
    refine tV_then (K := KI (gx X) W F G σ Rr) st id (fun _ _ z => z) k fun d ts1 _ k1 F1 M1 H1 v s1 r1 st1 => ?_
    unfold rng1 at k1
    cases q : toI d with
    | none => rw [q] at k1; exact k1.elim
    | some j =>
      rw [q] at k1
      simp only at k1
      by_cases hb : big62 j
      · rw [if_pos hb] at k1
        rw [toI_eq q] at r1
        cases r1.int
        obtain ⟨b1, b2⟩ := hb
        refine ⟨j, rfl, by omega, by omega, k1 F1 M1 H1 _ s1 st1 ?_⟩
        unfold upto
        rw [Int.sub_zero]
        exact src_range
      · rw [if_neg hb] at k1; exact k1.elim
def enumD : Nat → List D → List D
  | _, [] => []
  | k, d :: r => .tup [.int k, d] :: enumD (k + 1) r
def zipD : List D → List D → List D
  | x :: xs, y :: ys => .tup [x, y] :: zipD xs ys
  | _, _ => []
theorem zipD_length : ∀ xs ys : List D, (zipD xs ys).length = min xs.length ys.length
  | [], ys => by simp [zipD]
  | x :: xs, [] => by simp [zipD]
  | x :: xs, y :: ys => by
    rw [zipD, List.length_cons, List.length_cons, List.length_cons, zipD_length]
    omega
theorem zipD_get : ∀ {xs ys : List D} {i : Nat} {d : D}, (zipD xs ys)[i]? = some d → ∃ x y, xs[i]? = some x ∧ ys[i]? = some y ∧ d = .tup [x, y]
  | [], _, i, d, h => by simp [zipD] at h
  | x :: xs, [], i, d, h => by simp [zipD] at h
  | x :: xs, y :: ys, 0, d, h => by
    rw [zipD] at h
    simp at h
    exact ⟨x, y, rfl, rfl, h.symm⟩
  | x :: xs, y :: ys, i + 1, d, h => by
    rw [zipD] at h
    obtain ⟨a, b, h1, h2, h3⟩ := zipD_get (i := i) (by simpa using h)
    exact ⟨a, b, by simpa using h1, by simpa using h2, h3⟩
theorem src_zipL {F1 : Hp} {a b : Addr} {xs ys : List V} {ds es : List D} (h : SqL g.K F1 a xs) (r : RpAll g F1 xs ds) (h2 : SqL g.K F1 b ys) (r2 : RpAll g F1 ys es) : Src g F1 (Itz g.K a b) (zipD ds es) where
  go := fun i F Mm G H σ ts s st hi => by
    rw [zipD_length] at hi
    obtain ⟨x, e, _⟩ := r.get (List.getElem?_eq_getElem (show i < ds.length by omega))
    obtain ⟨y, e', _⟩ := r2.get (List.getElem?_eq_getElem (show i < es.length by omega))
    exact ⟨xs, ys, x, y, (s.trans st.hc.fh).seq h, (s.trans st.hc.fh).seq h2, e, e'⟩
  stop := fun i F Mm G H σ ts s st hi => ⟨xs, ys, (s.trans st.hc.fh).seq h, (s.trans st.hc.fh).seq h2, by rw [zipD_length] at hi; rw [r.length, r2.length]; omega⟩
  yld := fun i d F Mm G H σ ts x H' s st hd ⟨Ta, u, w, e1, nT, e2, f, f2⟩ => by
    subst e1 e2
    obtain ⟨z, z2, e3, e4, e5⟩ := zipD_get hd
    subst e5
    obtain ⟨v, e6, rv⟩ := r.get e3
    obtain ⟨v2, e7, rv2⟩ := r2.get e4
    have e8 := f xs ((s.trans st.hc.fh).seq h)
    rw [e6] at e8; cases e8
    have e9 := f2 ys ((s.trans st.hc.fh).seq h2)
    rw [e7] at e9; cases e9
    obtain ⟨s2, st2⟩ := st.newF (o := .tup [u, w]) nT
    exact ⟨_, s2, .tup upd_same (.cons (rv.mono (s.trans s2)) (.cons (rv2.mono (s.trans s2)) .nil)), st2⟩
theorem src_zipT {F1 : Hp} {a b : Addr} {xs ys : List V} {ds es : List D} (h : SqT g.K F1 a xs) (r : RpAll g F1 xs ds) (h2 : SqT g.K F1 b ys) (r2 : RpAll g F1 ys es) : Src g F1 (RZ.ItzT g.K a b) (zipD ds es) where
  go := fun i F Mm G H σ ts s st hi => by
    rw [zipD_length] at hi
    obtain ⟨x, e, _⟩ := r.get (List.getElem?_eq_getElem (show i < ds.length by omega))
    obtain ⟨y, e', _⟩ := r2.get (List.getElem?_eq_getElem (show i < es.length by omega))
    exact ⟨xs, ys, x, y, Same.seqT (s.trans st.hc.fh) h, Same.seqT (s.trans st.hc.fh) h2, e, e'⟩
  stop := fun i F Mm G H σ ts s st hi => ⟨xs, ys, Same.seqT (s.trans st.hc.fh) h, Same.seqT (s.trans st.hc.fh) h2, by rw [zipD_length] at hi; rw [r.length, r2.length]; omega⟩
  yld := fun i d F Mm G H σ ts x H' s st hd ⟨Ta, u, w, e1, nT, e2, f, f2⟩ => by
    subst e1 e2
    obtain ⟨z, z2, e3, e4, e5⟩ := zipD_get hd
    subst e5
    obtain ⟨v, e6, rv⟩ := r.get e3
    obtain ⟨v2, e7, rv2⟩ := r2.get e4
    have e8 := f xs (Same.seqT (s.trans st.hc.fh) h)
    rw [e6] at e8; cases e8
    have e9 := f2 ys (Same.seqT (s.trans st.hc.fh) h2)
    rw [e7] at e9; cases e9
    obtain ⟨s2, st2⟩ := st.newF (o := .tup [u, w]) nT
    exact ⟨_, s2, .tup upd_same (.cons (rv.mono (s.trans s2)) (.cons (rv2.mono (s.trans s2)) .nil)), st2⟩
def zip2 (a b : D) : Option (List D) := match a with
  | .lst l => match b with | .lst k => some (zipD l k) | _ => none
  | .tup l => match b with | .tup k => some (zipD l k) | _ => none
  | _ => none
theorem KI.mono {F F1 G : Hp} {σ : L2.St} {Rr : It → Hp → Prop} {r : R (List D)} (s : Same F F1) (h : KI g W F G σ Rr r) : KI g W F1 G σ Rr r := by
  cases r with
  | bad => exact h
  | ok ds ts => exact fun F' M' H' J s1 => h F' M' H' J (s.trans s1)
  | ex c ts => exact KX.mono s h
theorem pi_zipM {ma mb : M D} {elts : List Expr} {kk : Nat} (hg : Gl X "zip") (hm : X.mg "zip" = none) (h : PE X e (tZ (gx X) W ma)) (h2 : PE X e2 (tZ (gx X) W mb)) (n : nst e = true) (n2 : nst e2 = true) :
    PI X (.Tuple elts kk tpos) (.Call (.Name "zip" p) [e, e2] [] pos) (tI (gx X) W (ma >>= fun d => mb >>= fun d2 => opt (zip2 d d2))) :=
  pi_imp (RZ.pi_zipA hg hm (pa_cons h (pa_cons h2 pa_nil (star_of n2 _ _)) (star_of n _ _)) (star_of n _ _) (star_all (by simp [n2]) _ _)) fun σ H Rr ⟨F, Mm, G, ts, st, k⟩ => by
    refine tZ_then (K := KI (gx X) W F G σ Rr) st id (fun _ _ z => z) k fun d ts1 _ k1 F1 M1 H1 v s1 r1 st1 => ?_
    refine tZ_then (K := KI (gx X) W F1 G σ Rr) st1 id (fun _ _ z => z) (KI.mono s1 k1) fun d2 ts2 _ k2 F2 M2 H2 v2 s2 r2 st2 => ?_
    have hh := st2.hc.fh
    cases r1 with
    | lst h r =>
      cases r2 with
      | lst h' r' => exact ⟨_, _, _, _, rfl, .inl ⟨.of (hh _ _ (s2 _ _ h)), .of (hh _ _ h'), k2 F2 M2 H2 _ s2 st2 (src_zipL (.of (s2 _ _ h)) (r.mono s2) (.of h') r')⟩⟩
      | _ => exact k2.elim
    | @tup a xs dsa h r =>
      cases d2 with
      | tup l' =>
        obtain ⟨b, ys, rfl, h', r'⟩ := r2.tupS
        exact ⟨_, _, _, _, rfl, .inr ⟨.of ((s2.trans hh) _ _ h), Same.seqT hh h', k2 F2 M2 H2 _ s2 st2 (src_zipT (.of (s2 _ _ h)) (r.mono s2) h' r')⟩⟩
      | _ => exact k2.elim
    | @ktup a xs dsa h nl r =>
      cases d2 with
      | tup l' =>
        obtain ⟨b, ys, rfl, h', r'⟩ := r2.tupS
        exact ⟨_, _, _, _, rfl, .inr ⟨Same.seqT Same.empty h, Same.seqT hh h', k2 F2 M2 H2 _ s2 st2 (src_zipT (Same.seqT Same.empty h) (r.mono s2) h' r')⟩⟩
      | _ => exact k2.elim
    | _ => exact k2.elim
end
/-! ### for -/
def loopS (put : D → List T → Option (List T)) (body : S) : List D → S
  | [] => RS.nx
  | d :: ds => fun ts => match put d ts with
    | none => .bad
    | some ts1 => match body ts1 with
      | .nx ts2 => loopS put body ds ts2
      | .ct ts2 => loopS put body ds ts2
      | .bk ts2 => .nx ts2
      | .rt t ts2 => .rt t ts2
      | .ex c ts2 => .ex c ts2
      | .bad => .bad
def forS (m : M (List D)) (put : D → List T → Option (List T)) (body : S) : S := bindS m fun ds => loopS put body ds
section
variable {X : Cx} {W : WX} {bs : List Nat} {tg iter : Expr} {body : List Stmt} {pos : Pos} {m : M (List D)} {put : D → List T → Option (List T)} {n : S}
theorem for_coreK {σ : L2.St} {F Mm G H : Hp} {ts : List T} {D : Ends} (st : Sta (gx X) F Mm G H σ ts) (k : KS (gx X) W bs F G σ D (forS m put n ts)) :
    tFor (fun _ _ Rr => KI (gx X) W F G σ Rr (m ts)) (gD (gx X) bs put) (tS (gx X) W bs n) D σ H := by
    show KI (gx X) W F G σ _ (m ts)
    unfold forS bindS at k
    cases q : m ts with
    | bad => rw [q] at k; exact k
    | ex c ts' => rw [q] at k; exact k.kx
    | ok ds ts0 =>
      rw [q] at k
      simp only at k
      intro F1 M1 H1 J s1 st1 src
      refine ⟨fun i m σ' H' => ∃ F' M' ts', Same F1 F' ∧ Sta (gx X) F' M' G H' σ' ts' ∧ Pin bs σ σ' ∧ i + m = ds.length ∧ KS (gx X) W bs F' G σ' D (loopS put n (ds.drop i) ts'), ⟨ds.length, F1, M1, ts0, Same.refl _, st1, Pin.refl, Nat.zero_add _, KS.mono k s1 Pin.refl⟩, ?_⟩
      rintro i m σ' H' ⟨F2, M2, ts2, s2, st2, p2, em, k2⟩
      cases m with
      | zero =>
        have ei : i = ds.length := em
        refine .inl ⟨src.stop i F2 M2 G H' σ' ts2 s2 st2 ei, ?_⟩
        rw [List.drop_of_length_le (by omega)] at k2
        exact k2 F2 M2 H' σ' (Same.refl _) st2 Pin.refl
      | succ m =>
        have hi : i < ds.length := by omega
        have ed : ds.drop i = ds[i] :: ds.drop (i + 1) := List.drop_eq_getElem_cons hi
        rw [ed] at k2
        refine .inr ⟨src.go i F2 M2 G H' σ' ts2 s2 st2 hi, fun σ3 H3 => ∃ F' M' ts', Same F1 F' ∧ Sta (gx X) F' M' G H3 σ3 ts' ∧ Pin bs σ σ3 ∧ KS (gx X) W bs F' G σ3 D (loopS put n (ds.drop (i + 1)) ts'), ?_, ?_⟩
        · rintro σ3 H3 ⟨F3, M3, ts3, s3, st3, p3, k3⟩
          exact ⟨m, Nat.lt_succ_self m, F3, M3, ts3, s3, st3, p3, by omega, k3⟩
        · intro x H3 y
          obtain ⟨F3, s3, rx, st3⟩ := src.yld i _ F2 M2 G H' σ' ts2 x H3 s2 st2 (List.getElem?_eq_getElem hi) y
          rw [loopS] at k2
          dsimp only at k2
          cases q2 : put ds[i] ts2 with
          | none => rw [q2] at k2; exact k2.elim
          | some ts3 =>
            simp only [q2] at k2
            refine ⟨F3, M2, G, ts2, ds[i], ts3, st3, rx, q2, fun M4 σ4 st4 p4 => ⟨F3, M4, G, ts3, st4, ?_⟩⟩
            cases q3 : n ts3 with
            | bad => rw [q3] at k2; exact k2
            | nx ts5 =>
              rw [q3] at k2
              exact fun F5 M5 H5 σ5 s5 st5 p5 => ⟨F5, M5, ts5, (s2.trans s3).trans s5, st5, (p2.trans p4).trans p5, KS.mono k2 (s3.trans s5) (p4.trans p5)⟩
            | ct ts5 =>
              rw [q3] at k2
              exact fun F5 M5 H5 σ5 s5 st5 p5 => ⟨F5, M5, ts5, (s2.trans s3).trans s5, st5, (p2.trans p4).trans p5, KS.mono k2 (s3.trans s5) (p4.trans p5)⟩
            | bk ts5 =>
              rw [q3] at k2
              exact fun F5 M5 H5 σ5 s5 st5 p5 => k2 F5 M5 H5 σ5 (s3.trans s5) st5 (p4.trans p5)
            | rt t ts5 =>
              rw [q3] at k2
              exact fun F5 Mv M5 H5 σ5 v s5 r st5 d p5 => k2 F5 Mv M5 H5 σ5 v (s3.trans s5) r st5 d (p4.trans p5)
            | ex c ts5 =>
              rw [q3] at k2
              exact fun F5 M5 H5 σ5 C s5 st5 p5 => k2 F5 M5 H5 σ5 C (s3.trans s5) st5 (p4.trans p5)
theorem ps_forS (hp : PassesOwn (model X.prog X.w) X.A X.env X.xe) (hc : X.calm = true) (hi : PI X tg iter (tI (gx X) W m)) (hg : PG X tg (gD (gx X) bs put)) (hb : PSs X body (tS (gx X) W bs n)) (hs : ∀ x, foldedSetIterable iter X.env x = pure x) :
    PS X (.For tg iter body [] pos) (tS (gx X) W bs (forS m put n)) :=
  ps_imp (ps_for hp hc hi hg hb hs) fun D σ H ⟨F, Mm, G, ts, st, k⟩ => ⟨F, Mm, G, ts, st, for_coreK st k⟩
end
end Ar
/-! ArJ: while, comprehensions, methods of lists, d[k] = v. -/
namespace Ar
open PySem PySem.Spec PyProof.Rows L2

/-! ### while -/
def whileN (c : M Bool) (body : S) : Nat → S
  | 0 => fun _ => .bad
  | n + 1 => fun ts => match c ts with
    | .bad => .bad
    | .ex e ts' => .ex e ts'
    | .ok b ts' => if b = true then (match body ts' with
      | .nx ts2 => whileN c body n ts2
      | .ct ts2 => whileN c body n ts2
      | .bk ts2 => .nx ts2
      | .rt t ts2 => .rt t ts2
      | .ex e ts2 => .ex e ts2
      | .bad => .bad) else .nx ts'
open Classical in
noncomputable def whileS (c : M Bool) (body : S) : S := fun ts => if h : ∃ n, whileN c body n ts ≠ .bad then whileN c body (Classical.choose h) ts else .bad
section
variable {X : Cx} {W : WX} {bs : List Nat} {e c : Expr} {body : List Stmt} {pos : Pos}
end

/-! ### comprehensions -/
def wipeT (ts : List T) : List Nat → List T
  | [] => ts
  | v :: vs => (wipeT ts vs).set v .gone
theorem wipeT_length (ts : List T) : ∀ vs, (wipeT ts vs).length = ts.length
  | [] => rfl
  | v :: vs => by rw [wipeT, List.length_set, wipeT_length]
theorem wipeT_in {ts : List T} {i : Nat} {t : T} : ∀ {vs : List Nat}, i ∈ vs → (wipeT ts vs)[i]? = some t → t = .gone
  | v :: vs, h, e => by
    rw [wipeT] at e
    by_cases hv : v = i
    · subst hv
      by_cases hl : v < (wipeT ts vs).length
      · rw [List.getElem?_set_self hl] at e; cases e; rfl
      · rw [List.getElem?_eq_none (by rw [List.length_set]; omega)] at e; cases e
    · rw [List.getElem?_set_ne hv] at e
      rcases List.mem_cons.mp h with q | q
      · exact absurd q.symm hv
      · exact wipeT_in q e
theorem wipe_other {σ : L2.St} {i : Nat} : ∀ {vs : List Nat}, i ∉ vs → (wipe σ vs)[i]? = σ[i]?
  | [], _ => rfl
  | v :: vs, h => by
    rw [List.mem_cons, not_or] at h
    unfold wipe
    rw [List.getElem?_set_ne (fun e => h.1 e.symm), wipe_other h.2]
section
variable {g : Gx} {F Mm G H : Hp} {σ : L2.St} {ts : List T}
theorem Sta.gone {i : Nat} {v : Option V} (st : Sta g F Mm G H σ ts) : Sta g F Mm G H (σ.set i v) (ts.set i .gone) := by
  obtain ⟨vs, r, q⟩ := st.vs
  refine ⟨st.hc, ⟨vs, ?_, fun k u t h1 h2 => ?_⟩, by rw [List.length_set, List.length_set]; exact st.len⟩
  · cases e : ts[i]? with
    | none => rw [List.set_eq_of_length_le (List.getElem?_eq_none_iff.mp e)]; exact r
    | some t =>
      obtain ⟨w, M1, M2, e1, _, s1, s2, d, back⟩ := r.pick e
      have b := back F em w .gone Mm (Same.refl _) .gone Dj.em_l Same.empty s2
      have lt : i < vs.length := (List.getElem?_eq_some_iff.mp e1).1
      have es : vs.set i w = vs := by
        refine List.ext_getElem? fun k => ?_
        by_cases hk : i = k
        · subst hk; rw [List.getElem?_set_self lt, e1]
        · rw [List.getElem?_set_ne hk]
      rw [es] at b; exact b
  · by_cases hk : i = k
    · subst hk
      have lt : i < ts.length := by
        have := (List.getElem?_eq_some_iff.mp h2).1
        rwa [List.length_set] at this
      rw [List.getElem?_set_self lt] at h2; cases h2; exact .inl rfl
    · rw [List.getElem?_set_ne hk] at h2 ⊢
      exact q k u t h1 h2
theorem Sta.wipe (st : Sta g F Mm G H σ ts) : ∀ vs, Sta g F Mm G H (L2.wipe σ vs) (wipeT ts vs)
  | [] => st
  | v :: vs => (Sta.wipe st vs).gone
theorem Sta.unwipe {vs : List Nat} (st : Sta g F Mm G H (L2.wipe σ vs) (wipeT ts vs)) : Sta g F Mm G H σ (wipeT ts vs) := by
  obtain ⟨ws, r, q⟩ := st.vs
  refine ⟨st.hc, ⟨ws, r, fun k u t h1 h2 => ?_⟩, by rw [← st.len, wipe_length]⟩
  by_cases hk : k ∈ vs
  · exact .inl (wipeT_in hk h2)
  · rcases q k u t h1 h2 with z | z
    · exact .inl z
    · exact .inr (by rw [wipe_other hk] at z; exact z)
end
def others (n : Nat) (vs : List Nat) : List Nat := (List.range n).filter fun i => !vs.contains i
theorem wipe_eq {σ σ2 : L2.St} {vs : List Nat} (hl : σ2.length = σ.length) (p : Pin (others σ.length vs) (wipe σ vs) σ2) : wipe σ2 vs = wipe σ vs := by
  refine List.ext_getElem? fun i => ?_
  by_cases hi : i ∈ vs
  · have gone : ∀ (τ : L2.St) (ws : List Nat), i ∈ ws → τ.length = σ.length → (wipe τ ws)[i]? = if i < σ.length then some none else none := fun τ ws => by
      induction ws with
      | nil => intro h; simp at h
      | cons w ws ih =>
        intro h hl
        unfold wipe
        by_cases hw : w = i
        · subst hw
          by_cases hlt : w < σ.length
          · rw [List.getElem?_set_self (by rw [wipe_length, hl]; exact hlt), if_pos hlt]
          · rw [List.getElem?_eq_none (by rw [List.length_set, wipe_length, hl]; omega), if_neg hlt]
        · rw [List.getElem?_set_ne hw]
          exact ih ((List.mem_cons.mp h).resolve_left fun e => hw e.symm) hl
    rw [gone σ2 vs hi hl, gone σ vs hi rfl]
  · rw [wipe_other hi]
    by_cases hlt : i < σ.length
    · exact p i (by unfold others; rw [List.mem_filter]; exact ⟨List.mem_range.mpr hlt, by simp [hi]⟩)
    · rw [List.getElem?_eq_none (by omega), wipe_other hi, List.getElem?_eq_none (by omega)]
/-- a comprehension's turns -/
def compR (vs : List Nat) (put : D → List T → Option (List T)) (mc : M Bool) (me : M D) : List D → M (List D)
  | [] => fun ts => .ok [] (wipeT ts vs)
  | d :: ds => fun ts => match put d (wipeT ts vs) with
    | none => .bad
    | some ts1 => match mc ts1 with
      | .ok b ts2 => if b = true then (match me ts2 with
          | .ok y ts3 => match compR vs put mc me ds ts3 with
            | .ok l ts4 => .ok (y :: l) ts4
            | .ex c ts4 => .ex c ts4
            | .bad => .bad
          | _ => .bad) else compR vs put mc me ds ts2
      | _ => .bad
def compM (mi : M (List D)) (vs : List Nat) (put : D → List T → Option (List T)) (mc : M Bool) (me : M D) : M T :=
  mi >>= fun ds => compR vs put mc me ds >>= fun l => if l.length ≤ lim then M.ret (.l (l.map .z)) else stop
def W0 : WX := fun _ _ _ _ => False
section
variable {X : Cx} {W : WX} {elt tg iter : Expr} {ifs : List Expr} {scope : Scope} {own : List (Str × Nat)} {pos : Pos} {mi : M (List D)} {put : D → List T → Option (List T)} {mc : M Bool} {me : M D}
theorem comp_coreK (hput : ∀ d ts ts', put d ts = some ts' → ts'.length = ts.length) {σ : L2.St} (hσ : σ.length = X.N.length) {F Mm G H : Hp} {ts : List T} {Q : VK} {vs : List Nat} (st : Sta (gx X) F Mm G H σ ts) (k : KD (gx X) W F G σ Q (compM mi vs put mc me ts)) :
    tLc (fun _ _ Rr => KI (gx X) W F G σ Rr (mi ts)) (gD (gx X) (others X.N.length vs) put) (tB (gx X) W0 mc) (tZ (gx X) W0 me) vs σ H Q := by
  show KI (gx X) W F G σ _ (mi ts)
  unfold compM at k
  cases q : mi ts with
  | bad => rw [bind_bad q] at k; exact k
  | ex c ts' => rw [bind_ex q] at k; exact k
  | ok ds ts0 =>
    rw [bind_ok q] at k
    intro F1 M1 H1 J s1 st1 src Da hDa
    -- what is left, behind the items so far
    let Rest : Hp → List D → R (List D) → Prop := fun F' acc r => match r with
      | .ok l ts' => (acc ++ l).length ≤ lim ∧ ∀ F'' Mv M' H' v, Same F' F'' → RO (gx X) F'' Mv v (.l ((acc ++ l).map .z)) → Sta (gx X) F'' M' (jn Mv G) H' σ ts' → Dj Mv G → Q v H'
      | _ => False
    have rest0 : Rest F1 [] (compR vs put mc me ds ts0) := by
      show match compR vs put mc me ds ts0 with
        | .ok l ts' => _
        | _ => False
      cases q2 : compR vs put mc me ds ts0 with
      | bad => rw [bind_bad q2] at k; exact k
      | ex c ts' =>
        exfalso
        have noex : ∀ (l : List D) (us : List T) (c : Str) (us' : List T), compR vs put mc me l us ≠ .ex c us' := by
          intro l
          induction l with
          | nil => intro us c us' z; cases z
          | cons d r ih =>
            intro us c us' z
            rw [compR] at z
            dsimp only at z
            split at z
            · cases z
            · split at z
              · split at z
                · split at z
                  · split at z
                    · cases z
                    · rename_i h3; cases z; exact ih _ _ _ h3
                    · cases z
                  · cases z
                · exact ih _ _ _ z
              · cases z
        exact noex _ _ _ _ q2
      | ok l ts' =>
        rw [bind_ok q2] at k
        by_cases hl : l.length ≤ lim
        · rw [if_pos hl] at k
          exact ⟨hl, fun F'' Mv M' H' v s => k F'' Mv M' H' v (s1.trans s)⟩
        · rw [if_neg hl] at k; exact k.elim
    have hn1 : σ.length = ts0.length := st1.len
    obtain ⟨stD, djD⟩ := st1.newO (o := .lst []) hDa
    refine ⟨fun i m H' => ∃ F' M' ts' acc accV, Same F1 F' ∧ Dj (upd em Da (.lst accV)) G ∧ Sta (gx X) F' M' (jn (upd em Da (.lst accV)) G) H' (wipe σ vs) (wipeT ts' vs) ∧ RpAll (gx X) F' accV acc ∧ i + m = ds.length ∧ Rest F' acc (compR vs put mc me (ds.drop i) ts'),
      ⟨ds.length, F1, M1, ts0, [], [], Same.refl _, djD, stD.wipe vs, .nil, Nat.zero_add _, rest0⟩, ?_⟩
    rintro i m H' ⟨F2, M2, ts2, acc, accV, s2, dj2, st2, ra, em, k2⟩
    cases m with
    | zero =>
      have ei : i = ds.length := em
      refine .inl ⟨src.stop i F2 M2 _ H' _ _ s2 st2 ei, ?_⟩
      rw [List.drop_of_length_le (by omega)] at k2
      obtain ⟨hl, k3⟩ := k2
      rw [List.append_nil] at k3
      exact k3 F2 (upd Ar.em Da (.lst accV)) M2 H' (.ref Da) (Same.refl _) (.l (M' := Ar.em) upd_same Same.empty rfl (ROs.of_all ra)) st2.unwipe dj2
    | succ m =>
      have hi : i < ds.length := by omega
      have ed : ds.drop i = ds[i] :: ds.drop (i + 1) := List.drop_eq_getElem_cons hi
      rw [ed, compR] at k2
      dsimp only at k2
      refine .inr ⟨src.go i F2 M2 _ H' _ _ s2 st2 hi, fun H3 => ∃ F' M' ts' acc accV, Same F1 F' ∧ Dj (upd Ar.em Da (.lst accV)) G ∧ Sta (gx X) F' M' (jn (upd Ar.em Da (.lst accV)) G) H3 (wipe σ vs) (wipeT ts' vs) ∧ RpAll (gx X) F' accV acc ∧ Rest F' acc (compR vs put mc me (ds.drop (i + 1)) ts'), ?_, ?_⟩
      · rintro H3 ⟨F3, M3, ts3, acc3, accV3, a1, a2, a3, a4, a5⟩
        exact ⟨m, Nat.lt_succ_self m, F3, M3, ts3, acc3, accV3, a1, a2, a3, a4, by omega, a5⟩
      · intro x H3 y
        obtain ⟨F3, s3, rx, st3⟩ := src.yld i _ F2 M2 _ H' _ _ x H3 s2 st2 (List.getElem?_eq_getElem hi) y
        cases q2 : put ds[i] (wipeT ts2 vs) with
        | none => rw [q2] at k2; exact k2.elim
        | some ts3 =>
          rw [q2] at k2
          dsimp only at k2
          refine ⟨F3, M2, _, _, ds[i], ts3, st3, rx, q2, fun M4 σ4 st4 p4 => ?_⟩
          have l2 : ts2.length = σ.length := by
            have := st2.len
            rw [wipe_length, wipeT_length] at this
            exact this.symm
          have l4 : σ4.length = σ.length := by
            rw [st4.len, hput _ _ _ q2, wipeT_length, l2]
          have hw : wipe σ4 vs = wipe σ vs := wipe_eq l4 (by rw [hσ]; exact p4)
          refine ⟨hw, F3, M4, _, ts3, st4, ?_⟩
          cases q3 : mc ts3 with
          | bad => rw [q3] at k2; exact k2.elim
          | ex c ts5 => rw [q3] at k2; exact k2.elim
          | ok b ts5 =>
            rw [q3] at k2
            dsimp only at k2
            intro F5 M5 H5 s5 st5
            cases b with
            | false =>
              simp only [Bool.false_eq_true, if_false] at k2 ⊢
              have st6 := st5.wipe vs
              rw [hw] at st6
              refine ⟨F5, M5, ts5, acc, accV, (s2.trans s3).trans s5, dj2, st6, ra.mono (s3.trans s5), ?_⟩
              show match compR vs put mc me (ds.drop (i + 1)) ts5 with
                | .ok l ts' => _
                | _ => False
              revert k2
              show (match compR vs put mc me (ds.drop (i + 1)) ts5 with
                | .ok l ts' => _
                | _ => False) → _
              cases compR vs put mc me (ds.drop (i + 1)) ts5 with
              | ok l ts' => exact fun ⟨h1, h2⟩ => ⟨h1, fun F'' Mv M' H' v s => h2 F'' Mv M' H' v ((s3.trans s5).trans s)⟩
              | ex c ts' => exact fun z => z
              | bad => exact fun z => z
            | true =>
              simp only [if_true] at k2 ⊢
              refine ⟨F5, M5, _, ts5, st5, ?_⟩
              cases q4 : me ts5 with
              | bad => rw [q4] at k2; exact k2.elim
              | ex c ts6 => rw [q4] at k2; exact k2.elim
              | ok yd ts6 =>
                rw [q4] at k2
                dsimp only at k2
                intro F6 M6 H6 yv s6 ry st6
                have hc := st6.hc
                have hD : H6 Da = some (.lst accV) := hc.gh _ _ (jn_l _ _ upd_same)
                have DM : M6 Da = none := hc.mg.ne' (jn_l _ _ upd_same)
                have DF : F6 Da = none := hc.fg.ne' (jn_l _ _ upd_same)
                have DG : G Da = none := dj2.ne upd_same
                have dj6 : Dj (upd Ar.em Da (.lst (accV ++ [yv]))) G := dj_upd_l Dj.em_l DG
                cases q5 : compR vs put mc me (ds.drop (i + 1)) ts6 with
                | bad => rw [q5] at k2; exact k2.elim
                | ex c ts7 => rw [q5] at k2; exact k2.elim
                | ok l ts7 =>
                  rw [q5] at k2
                  obtain ⟨h1, h2⟩ := k2
                  have h3 : acc.length + (l.length + 1) ≤ lim := by simpa using h1
                  refine ⟨accV, hD, lim_lt' (by rw [ra.length]; omega), F6, M6, ts6, acc ++ [yd], accV ++ [yv], ((s2.trans s3).trans s5).trans s6, dj6, ?_, (ra.mono ((s3.trans s5).trans s6)).append (.cons ry .nil), ?_⟩
                  · have st7 := st6.wipe vs
                    rw [hw] at st7
                    have off : ∀ {A : Hp}, A Da = none → Same A H6 → Same A (upd H6 Da (.lst (accV ++ [yv]))) := fun {A} a s b o e => by rw [upd_ne (ne_of_none e a)]; exact s _ _ e
                    refine st7.more (Same.refl _) ⟨off DF hc.fh, off DM hc.mh, jn_sub (same_upd_l Same.empty upd_same) (off DG ((jn_r dj2).trans hc.gh)), hc.fm, dj_jn_r (dj_upd_l Dj.em_l DF).symm (hc.fg.sub (Same.refl _) (jn_r dj2)), dj_jn_r (dj_upd_l Dj.em_l DM).symm (hc.mg.sub (Same.refl _) (jn_r dj2)), hc.ft.cell fun _ z => by cases z⟩
                  · rw [q5]
                    refine ⟨by simpa using h1, fun F'' Mv M' H'' v s => ?_⟩
                    rw [List.append_assoc]
                    exact h2 F'' Mv M' H'' v (((s3.trans s5).trans s6).trans s)
theorem comp_core (hput : ∀ d ts ts', put d ts = some ts' → ts'.length = ts.length) {σ : L2.St} (hσ : σ.length = X.N.length) {H : Hp} {Q : VK} {vs : List Nat} (h : tD (gx X) W (compM mi vs put mc me) σ H Q) :
    tLc (tI (gx X) W mi) (gD (gx X) (others X.N.length vs) put) (tB (gx X) W0 mc) (tZ (gx X) W0 me) vs σ H Q := by
  obtain ⟨F, Mm, G, ts, st, k⟩ := h
  exact ⟨F, Mm, G, ts, st, comp_coreK hput hσ st k⟩
end
end Ar
/-! ArK: comprehensions as rules, methods of owned lists, d[k] = v, slices, isinstance. -/
namespace Ar
open PySem PySem.Spec PyProof.Rows L2
section
variable {X : Cx} {W : WX} {bs : List Nat}
theorem pts_nilB {g : Gx} : PTs X [] (tB g W0 (M.ret true)) := ⟨fun pins s σ H Q I h => pts_nil.run pins s σ H Q I (by
  obtain ⟨F, Mm, G, ts, st, k⟩ := h
  exact k F Mm H (Same.refl _) st)⟩
theorem pts_oneB {g : Gx} {c : Expr} {m : M Bool} (h : PT X c (tB g W0 m)) : PTs X [c] (tB g W0 m) := pts_one h
theorem pe_compM {elt tg iter : Expr} {ifs : List Expr} {scope : Scope} {own : List (Str × Nat)} {pos : Pos} {mi : M (List D)} {put : D → List T → Option (List T)} {mc : M Bool} {me : M D}
    (hc : X.calm = true) (hN : X.N.Nodup) (hi : PI X tg iter (tI (gx X) W mi)) (ok : BlkOk X.N X.env.scope scope own)
    (hg : ∀ (s : Shared) (H : Hp) (C : Addr) (cl : List (Str × Addr)) (fp : List Addr), PG (X.blk s H scope (compEnvC scope cl C X.env) fp) tg (gD (gx X) (others X.N.length (own.map (·.2))) put))
    (ht : ∀ (s : Shared) (H : Hp) (C : Addr) (cl : List (Str × Addr)) (fp : List Addr), PTs (X.blk s H scope (compEnvC scope cl C X.env) fp) ifs (tB (gx X) W0 mc))
    (he : ∀ (s : Shared) (H : Hp) (C : Addr) (cl : List (Str × Addr)) (fp : List Addr), PE (X.blk s H scope (compEnvC scope cl C X.env) fp) elt (tZ (gx X) W0 me)) (hs : ∀ x, foldedSetIterable iter X.env x = pure x)
    (hput : ∀ d ts ts', put d ts = some ts' → ts'.length = ts.length) : PE X (.ListComp elt [⟨tg, iter, ifs, 0⟩] scope pos) (tD (gx X) W (compM mi (own.map (·.2)) put mc me)) :=
  ⟨fun pins s σ H Q I h => (pe_lc hc hN hi ok hg ht he hs).run pins s σ H Q I (comp_core hput I.len h)⟩
theorem ps_setCompM {i : Nat} {y : Str} {py spos : Pos} {elt tg iter : Expr} {ifs : List Expr} {scope : Scope} {own : List (Str × Nat)} {pos : Pos} {mi : M (List D)} {put : D → List T → Option (List T)} {mc : M Bool} {me : M D}
    (hc : X.calm = true) (hN : X.N.Nodup) (hy : X.N[i]? = some y) (hyl : X.env.scope.names.lookup y = some .local)
    (hsw : swapsWith (.ListComp elt [⟨tg, iter, ifs, 0⟩] scope pos) (some (.Name y py)) spos.line X.env = pure true) (hi : PI X tg iter (tI (gx X) W mi)) (ok : BlkOk X.N X.env.scope scope own)
    (hg : ∀ (s : Shared) (H : Hp) (C : Addr) (cl : List (Str × Addr)) (fp : List Addr), PG (X.blk s H scope (compEnvC scope cl C X.env) fp) tg (gD (gx X) (others X.N.length (own.map (·.2))) put))
    (ht : ∀ (s : Shared) (H : Hp) (C : Addr) (cl : List (Str × Addr)) (fp : List Addr), PTs (X.blk s H scope (compEnvC scope cl C X.env) fp) ifs (tB (gx X) W0 mc))
    (he : ∀ (s : Shared) (H : Hp) (C : Addr) (cl : List (Str × Addr)) (fp : List Addr), PE (X.blk s H scope (compEnvC scope cl C X.env) fp) elt (tZ (gx X) W0 me)) (hs : ∀ x, foldedSetIterable iter X.env x = pure x)
    (hput : ∀ d ts ts', put d ts = some ts' → ts'.length = ts.length) (hb : i ∉ bs) : PS X (.Assign [.Name y py] (.ListComp elt [⟨tg, iter, ifs, 0⟩] scope pos) spos) (tS (gx X) W bs (setS i (compM mi (own.map (·.2)) put mc me))) :=
  ⟨fun pins s σ H D I ⟨F, Mm, G, ts, sa, k⟩ => (ps_setLc hc hN hy hyl hsw hi ok hg ht he hs).run pins s σ H D I (comp_core (W := W) hput I.len (Q := fun x H1 => gName i x σ H1 D.nx) (tD_S sa k fun t ts1 _ k1 F1 Mv M1 H1 v s1 r st1 dj => by
    by_cases hl : i < ts1.length
    · rw [if_pos hl] at k1
      obtain ⟨M', st2⟩ := st1.assign r dj hl
      exact k1 F1 M' H1 _ s1 st2 (Pin.set hb)
    · rw [if_neg hl] at k1; exact k1.elim))⟩
mutual
theorem put_length : ∀ (t : Tg) (d : D) (ts ts' : List T), t.put d ts = some ts' → ts'.length = ts.length
  | .n i, d, ts, ts', h => by
    rw [Tg.put] at h
    split at h
    · cases h; rw [List.length_set]
    · cases h
  | .t l, d, ts, ts', h => by
    rw [Tg.put] at h
    split at h
    · exact puts_len l _ _ _ h
    · cases h
theorem puts_len : ∀ (l : List Tg) (ds : List D) (ts ts' : List T), Tg.puts l ds ts = some ts' → ts'.length = ts.length
  | [], [], ts, ts', h => by rw [Tg.puts] at h; cases h; rfl
  | g :: gs, d :: ds, ts, ts', h => by
    rw [Tg.puts] at h
    cases e1 : g.put d ts with
    | none => rw [e1] at h; cases h
    | some ts1 => rw [e1] at h; rw [puts_len gs ds ts1 ts' h, put_length g d ts ts1 e1]
  | [], _ :: _, _, _, e => by rw [Tg.puts] at e; cases e; all_goals simp
  | _ :: _, [], _, _, e => by rw [Tg.puts] at e; cases e; all_goals simp
end
/-! ### an owned object that a slot holds is changed -/
theorem Sta.close {g : Gx} {F Mm Mv G H M1 M2 Mc Mc' Mr : Hp} {σ : L2.St} {ts : List T} {i : Nat} {v : V} {vs : List V} {a : Addr} {o o' : HO} {t' : T} (st : Sta g F Mm (jn Mv G) H σ ts) (d : Dj Mv G) (e1 : σ[i]? = some (some v))
    (s1 : Same M1 Mm) (s2 : Same M2 Mm) (dd : Dj M1 M2) (q : ∀ (k : Nat) (v : V) (t : T), vs[k]? = some v → ts[k]? = some t → t = .gone ∨ σ[k]? = some (some v))
    (back : ∀ F' M1' v' t' M', Same F F' → RO g F' M1' v' t' → Dj M1' M2 → Same M1' M' → Same M2 M' → ROs g F' M' (vs.set i v') (ts.set i t'))
    (ha : M1 a = some o) (sc : Same Mc M1) (ca : Mc a = none) (h1 : Same Mc' (jn Mc Mv)) (h2 : Same Mr (jn Mc Mv)) (h3 : Dj Mc' Mr) (r : RO g F (upd Mc' a o') v t') (nt : ∀ xs, o' ≠ .tup xs := by intro _ z; cases z) :
    ∃ M', Sta g F M' (jn Mr G) (upd H a o') σ (ts.set i t') ∧ Dj Mr G := by
  have hc := st.hc
  have dv1 : Dj Mv M1 := (hc.mg.sub s1 jn_l).symm
  have dv2 : Dj Mv M2 := (hc.mg.sub s2 jn_l).symm
  have va : Mv a = none := dv1.ne' ha
  have aG : G a = none := (hc.mg.sub s1 (jn_r d)).ne ha
  have aF : F a = none := hc.fm.ne' (s1 _ _ ha)
  have a2 : M2 a = none := dd.ne ha
  have dcv : Dj (jn Mc Mv) G := dj_jn (hc.mg.sub (sc.trans s1) (jn_r d)) d
  have dcF : Dj F (jn Mc Mv) := dj_jn_r (hc.fm.sub (Same.refl _) (sc.trans s1)) (hc.fg.sub (Same.refl _) jn_l)
  have dc2 : Dj (jn Mc Mv) M2 := dj_jn (dd.sub sc (Same.refl _)) dv2
  have jH : Same (jn Mc Mv) H := jn_sub ((sc.trans s1).trans hc.mh) (jn_l.trans hc.gh)
  have ja : (jn Mc Mv) a = none := jn_none ca va
  have off : ∀ {A : Hp}, A a = none → Same A H → Same A (upd H a o') := fun {A} n s b x e => by rw [upd_ne (ne_of_none e n)]; exact s _ _ e
  have c'a : Mc' a = none := h1.free ja
  have ra : Mr a = none := h2.free ja
  have dN2 : Dj (upd Mc' a o') M2 := dj_upd_l (dc2.sub h1 (Same.refl _)) a2
  refine ⟨jn (upd Mc' a o') M2, st.put (Same.refl _) e1 q (back F (upd Mc' a o') v t' (jn (upd Mc' a o') M2) (Same.refl _) r dN2 jn_l (jn_r dN2)) ?_, dcv.sub h2 (Same.refl _)⟩
  exact ⟨off aF hc.fh, jn_sub (same_upd_l (off c'a (h1.trans jH)) upd_same) (off a2 (s2.trans hc.mh)), jn_sub (off ra (h2.trans jH)) (off aG ((jn_r d).trans hc.gh)),
    dj_jn_r (dj_upd_l (dcF.symm.sub h1 (Same.refl _)) aF).symm (hc.fm.sub (Same.refl _) s2), dj_jn_r (dcF.sub (Same.refl _) h2) (hc.fg.sub (Same.refl _) (jn_r d)),
    dj_jn (dj_jn_r (dj_upd_l h3 ra) (dj_upd_l (dcv.sub h1 (Same.refl _)) aG)) (dj_jn_r (dc2.symm.sub (Same.refl _) h2) (hc.mg.sub s2 (jn_r d))), hc.ft.cell nt⟩
/-- the owned list in a slot, and how it is changed -/
theorem Sta.lst {g : Gx} {F Mm Mv G H : Hp} {σ : L2.St} {ts : List T} {i : Nat} {xs : List T} (st : Sta g F Mm (jn Mv G) H σ ts) (d : Dj Mv G) (e : ts[i]? = some (.l xs)) :
    ∃ a ws Mc, σ[i]? = some (some (.ref a)) ∧ H a = some (.lst ws) ∧ ROs g F Mc ws xs ∧ Dj Mc Mv ∧
      ∀ us ys Mc' Mr, ROs g F Mc' us ys → Same Mc' (jn Mc Mv) → Same Mr (jn Mc Mv) → Dj Mc' Mr → ∃ M', Sta g F M' (jn Mr G) (upd H a (.lst us)) σ (ts.set i (.l ys)) ∧ Dj Mr G := by
  obtain ⟨v, M1, M2, vs, e1, r, s1, s2, dd, q, ev, back⟩ := st.slot e (fun z => nomatch z)
  have hc := st.hc
  cases r with
  | @l _ Mc a ws _ h1 h2 h3 h4 =>
    have dv1 : Dj Mv M1 := (hc.mg.sub s1 jn_l).symm
    have va : Mv a = none := dv1.ne' h1
    refine ⟨a, ws, Mc, e1, hc.mh _ _ (s1 _ _ h1), h4, dv1.symm.sub h2 (Same.refl _), fun us ys Mc' Mr ru k1 k2 k3 => ?_⟩
    have c'a : Mc' a = none := k1.free (jn_none h3 va)
    exact st.close d e1 s1 s2 dd q back h1 h2 h3 k1 k2 k3 (.l (M' := Mc') upd_same (same_upd c'a) c'a ru)
theorem Sta.dkt {g : Gx} {F Mm Mv G H : Hp} {σ : L2.St} {ts : List T} {i : Nat} {xs : List (Key × T)} (st : Sta g F Mm (jn Mv G) H σ ts) (d : Dj Mv G) (e : ts[i]? = some (.dk xs)) :
    ∃ (a : Addr) (kvs : List (Key × V)) (Mc : Hp), σ[i]? = some (some (.ref a)) ∧ H a = some (.dK kvs) ∧ kvs.map (·.1) = xs.map (·.1) ∧ ROs g F Mc (kvs.map (·.2)) (xs.map (·.2)) ∧ Dj Mc Mv ∧
      ∀ (kus : List (Key × V)) (ys : List (Key × T)) (Mc' Mr : Hp), kus.map (·.1) = ys.map (·.1) → ROs g F Mc' (kus.map (·.2)) (ys.map (·.2)) → Same Mc' (jn Mc Mv) → Same Mr (jn Mc Mv) → Dj Mc' Mr → ∃ M', Sta g F M' (jn Mr G) (upd H a (.dK kus)) σ (ts.set i (.dk ys)) ∧ Dj Mr G := by
  obtain ⟨v, M1, M2, vs, e1, r, s1, s2, dd, q, ev, back⟩ := st.slot e (fun z => nomatch z)
  have hc := st.hc
  cases r with
  | @dk _ Mc a kvs _ h1 h2 h3 h4 h5 =>
    have dv1 : Dj Mv M1 := (hc.mg.sub s1 jn_l).symm
    have va : Mv a = none := dv1.ne' h1
    refine ⟨a, kvs, Mc, e1, hc.mh _ _ (s1 _ _ h1), h4, h5, dv1.symm.sub h2 (Same.refl _), fun kus ys Mc' Mr hk ru k1 k2 k3 => ?_⟩
    have c'a : Mc' a = none := k1.free (jn_none h3 va)
    exact st.close d e1 s1 s2 dd q back h1 h2 h3 k1 k2 k3 (.dk (M' := Mc') upd_same (same_upd c'a) c'a hk ru)
theorem Sta.dtt {g : Gx} {F Mm Mv G H : Hp} {σ : L2.St} {ts : List T} {i : Nat} {xs : List (List Key × D)} (st : Sta g F Mm (jn Mv G) H σ ts) (d : Dj Mv G) (e : ts[i]? = some (.dt xs)) :
    ∃ (a : Addr) (kvs : List (List Key × V)), σ[i]? = some (some (.ref a)) ∧ H a = some (.dT kvs) ∧ kvs.map (·.1) = xs.map (·.1) ∧ RpAll g F (kvs.map (·.2)) (xs.map (·.2)) ∧
      ∀ (kus : List (List Key × V)) (ys : List (List Key × D)), kus.map (·.1) = ys.map (·.1) → RpAll g F (kus.map (·.2)) (ys.map (·.2)) → ∃ M', Sta g F M' (jn em G) (upd H a (.dT kus)) σ (ts.set i (.dt ys)) ∧ Dj em G := by
  obtain ⟨v, M1, M2, vs, e1, r, s1, s2, dd, q, ev, back⟩ := st.slot e (fun z => nomatch z)
  have hc := st.hc
  cases r with
  | @dt _ a kvs _ h1 h2 h3 =>
    refine ⟨a, kvs, e1, hc.mh _ _ (s1 _ _ h1), h2, h3, fun kus ys hk ru => ?_⟩
    exact st.close (Mc := em) (Mc' := em) (Mr := em) d e1 s1 s2 dd q back h1 Same.empty rfl Same.empty Same.empty Dj.em_l (.dt upd_same hk ru)
/-! ### methods -/
theorem few1 {e : Expr} (h : nst e = true) (env : Env) (cpos : Pos) : ((backTo cpos (starEach [e] env)).all (fun x => !x.1) && (backToKw cpos (keywordEach [] env)).all (fun x => x.1.isSome)
      && decide (([e] : List Expr).length + ([] : List Keyword).length + (if ([] : List Keyword).isEmpty then 0 else 1) < 30)) = true := by
  rw [star_of h]; rfl
theorem few2 {e f : Expr} (h : nst e = true) (h2 : nst f = true) (env : Env) (cpos : Pos) : ((backTo cpos (starEach [e, f] env)).all (fun x => !x.1) && (backToKw cpos (keywordEach [] env)).all (fun x => x.1.isSome)
      && decide (([e, f] : List Expr).length + ([] : List Keyword).length + (if ([] : List Keyword).isEmpty then 0 else 1) < 30)) = true := by
  rw [star_of h, star_of h2]; rfl
variable {e f : Expr} {x : Str} {p apos cpos : Pos} {i : Nat}
/-- the row of one argument, owned -/
def isL (i : Nat) (ts : List T) : Bool := match ts[i]? with
  | some (.l _) => true
  | _ => false
theorem isL_eq {i : Nat} {ts : List T} (h : isL i ts = true) : ∃ xs, ts[i]? = some (.l xs) := by
  unfold isL at h
  split at h
  · exact ⟨_, by assumption⟩
  · cases h
def appM (i : Nat) (m : M T) : M T := fun ts => if isL i ts = true then (m >>= fun t ts1 => match ts1[i]? with
    | some (.l xs) => if xs.length < lim then .ok (.z .non) (ts1.set i (.l (xs ++ [t]))) else .bad
    | _ => .bad) ts else .bad
theorem tyL {g : Gx} {H : Hp} {a : Addr} {xs : List V} (h : H a = some (.lst xs)) : tyV g.K "list" (.ref a) H := .inl ⟨rfl, _, .of h⟩
theorem pe_appM {m : M T} (hN : X.N[i]? = some x) (hv : Vis X.env.scope x) (hd : (x == ("__debug__" : Str)) = false) (hcd : (x == ("__classdict__" : Str)) = false) (he : PE X e (tD (gx X) W m)) (n : nst e = true) (hl : (apos.endLine == cpos.line) = true) :
    PE X (.Call (.Attribute (.Name x p) "append" apos) [e] [] cpos) (tD (gx X) W (appM i m)) :=
  pe_imp (pe_bm PySem.F.plainAttrs_list PySem.F.slot_list_append PySem.F.type_list_append mt_append (pe_var hN hv hd hcd) (pa_cons he pa_nil (star_of n _ _)) rfl (few1 n _ _) hl (star_of n _ _) rfl) fun σ H Q ⟨F, Mm, G, ts, st, k⟩ => by
    unfold appM at k
    by_cases hi : isL i ts = true
    · rw [if_pos hi] at k
      obtain ⟨xs0, e0⟩ := isL_eq hi
      obtain ⟨a, ws0, Mc0, e1, hH, _⟩ := Sta.lst (Mv := em) st Dj.em_l e0
      refine ⟨.ref a, e1, tyL (g := gx X) hH, ?_⟩
      refine tD_then (K := KD (gx X) W F G σ Q) st id (fun _ _ z => z) k fun t ts1 _ k1 F1 Mv M1 H1 v s1 r st1 dj => ?_
      cases q : ts1[i]? with
      | none => simp only [q] at k1; exact k1.elim
      | some u =>
        cases u with
        | l xs =>
          simp only [q] at k1
          by_cases hz : xs.length < lim
          · rw [if_pos hz] at k1
            obtain ⟨a', ws, Mc, e2, hH1, rs, dc, fin⟩ := st1.lst dj q
            rw [e1] at e2; cases e2
            obtain ⟨M', st2, dj2⟩ := fin (ws ++ [v]) (xs ++ [t]) (jn Mc Mv) em (rs.append (.cons (M1 := Mv) (M2 := em) r .nil (Same.refl _) Same.empty Dj.em_r) dc jn_l (jn_r dc)) (Same.refl _) Same.empty Dj.em_r
            exact ⟨a, ws, v, rfl, rfl, hH1, by rw [rs.length]; exact lim_lt' hz, k1 F1 em M' _ _ s1 (.z .non) st2 Dj.em_l⟩
          · rw [if_neg hz] at k1; exact k1.elim
        | _ => simp only [q] at k1; exact k1.elim
    · rw [if_neg hi] at k; exact k.elim
/-- x.pop(e) of an owned list -/
def popM (i : Nat) (m : M D) : M T := fun ts => if isL i ts = true then (m >>= fun d ts1 => match d with
    | .int j => match ts1[i]? with
      | some (.l xs) => if big62 j then (match ixN xs.length j with
        | some k => match xs[k]? with
          | some t => .ok t (ts1.set i (.l (xs.eraseIdx k)))
          | none => .bad
        | none => .bad) else .bad
      | _ => .bad
    | _ => .bad) ts else .bad
theorem ROs.erase {g : Gx} {F : Hp} : ∀ {M : Hp} {vs : List V} {ts : List T} {k : Nat} {t : T}, ROs g F M vs ts → ts[k]? = some t →
    ∃ v A B, vs[k]? = some v ∧ RO g F A v t ∧ ROs g F B (vs.eraseIdx k) (ts.eraseIdx k) ∧ Same A M ∧ Same B M ∧ Dj A B
  | _, _, _, k, _, .nil, e => by simp at e
  | M, _, _, 0, t, .cons (M1 := A) (M2 := B) (v := v) h1 h2 h3 h4 h5, e => by
    simp at e; subst e
    exact ⟨v, A, B, rfl, h1, h2, h3, h4, h5⟩
  | M, _, _, k + 1, t, .cons (M1 := A) (M2 := B) (v := v) h1 h2 h3 h4 h5, e => by
    obtain ⟨u, C, D', e1, r, rs, s1, s2, d⟩ := ROs.erase (k := k) (t := t) h2 (by simpa using e)
    have dA : Dj A D' := h5.sub (Same.refl _) s2
    refine ⟨u, C, jn A D', by simpa using e1, r, .cons (M1 := A) (M2 := D') h1 rs jn_l (jn_r dA) dA, s1.trans h4, jn_sub h3 (s2.trans h4), dj_jn_r (h5.sub (Same.refl _) s1).symm d⟩
theorem pe_popM {m : M D} (hN : X.N[i]? = some x) (hv : Vis X.env.scope x) (hd : (x == ("__debug__" : Str)) = false) (hcd : (x == ("__classdict__" : Str)) = false) (he : PE X e (tZ (gx X) W m)) (n : nst e = true) (hl : (apos.endLine == cpos.line) = true) :
    PE X (.Call (.Attribute (.Name x p) "pop" apos) [e] [] cpos) (tD (gx X) W (popM i m)) :=
  pe_imp (pe_bm PySem.F.plainAttrs_list PySem.F.slot_list_pop PySem.F.type_list_pop mt_popAt (pe_var hN hv hd hcd) (pa_cons he pa_nil (star_of n _ _)) rfl (few1 n _ _) hl (star_of n _ _) rfl) fun σ H Q ⟨F, Mm, G, ts, st, k⟩ => by
    unfold popM at k
    by_cases hi : isL i ts = true
    · rw [if_pos hi] at k
      obtain ⟨xs0, e0⟩ := isL_eq hi
      obtain ⟨a, ws0, Mc0, e1, hH, _⟩ := Sta.lst (Mv := em) st Dj.em_l e0
      refine ⟨.ref a, e1, tyL (g := gx X) hH, ?_⟩
      refine tZ_then (K := KD (gx X) W F G σ Q) st id (fun _ _ z => z) k fun d ts1 _ k1 F1 M1 H1 v s1 r st1 => ?_
      cases d with
      | int j =>
        cases r
        dsimp only at k1
        cases q : ts1[i]? with
        | none => simp only [q] at k1; exact k1.elim
        | some u =>
          cases u with
          | l xs =>
            simp only [q] at k1
            by_cases hb : big62 j
            · rw [if_pos hb] at k1
              cases q2 : ixN xs.length j with
              | none => rw [q2] at k1; exact k1.elim
              | some kk =>
                rw [q2] at k1
                dsimp only at k1
                cases q3 : xs[kk]? with
                | none => rw [q3] at k1; exact k1.elim
                | some t =>
                  rw [q3] at k1
                  obtain ⟨a', ws, Mc, e2, hH1, rs, dc, fin⟩ := Sta.lst (Mv := em) st1 Dj.em_l q
                  rw [e1] at e2; cases e2
                  obtain ⟨w, A, B, e3, rw', rs', sA, sB, dAB⟩ := rs.erase q3
                  obtain ⟨M', st2, dj2⟩ := fin (ws.eraseIdx kk) (xs.eraseIdx kk) B A rs' (sB.trans jn_l) (sA.trans jn_l) dAB.symm
                  obtain ⟨b1, b2⟩ := hb
                  exact ⟨a, ws, j, kk, w, rfl, rfl, hH1, by omega, by omega, by rw [rs.length]; exact (ixN_seq q2).1, e3, k1 F1 A M' _ _ s1 rw' st2 dj2⟩
            · rw [if_neg hb] at k1; exact k1.elim
          | _ => simp only [q] at k1; exact k1.elim
      | _ => exact k1.elim
    · rw [if_neg hi] at k; exact k.elim
/-- x[k] = e, x an owned list or dict -/
def rSetD : TSet := fun o i v H Q => ∃ a H4, o = .ref a ∧ DPut H a i v H4 ∧ Q H4
theorem set_dict (hu : X.A.units + 1 < cLine) : PSet X rSetD := by
  intro pins s σ H o i v ov iv u Q I ro ri rv h
  obtain ⟨a, H4, rfl, d, q⟩ := h
  cases ro
  exact d_setItem hu I d ri rv fun s4 I4 => ⟨H4, I4, q⟩
def rSetAll : TSet := fun o i v H Q => rSetL o i v H Q ∨ rSetD o i v H Q
theorem set_all (hu : X.A.units + 1 < cLine) : PSet X rSetAll := by
  intro pins s σ H o i v ov iv u Q I ro ri rv h
  rcases h with h | h
  · exact set_list pins s σ H o i v ov iv u Q I ro ri rv h
  · exact set_dict hu pins s σ H o i v ov iv u Q I ro ri rv h
def putT (k : Key) (t : T) (kvs : List (Key × T)) : List (Key × T) := if kvs.any (fun p => decide (p.1 = k)) = true then kvs.map (fun p => if p.1 = k then (p.1, t) else p) else kvs ++ [(k, t)]
def putD (k : List Key) (t : D) (kvs : List (List Key × D)) : List (List Key × D) := if kvs.any (fun p => decide (p.1 = k)) = true then kvs.map (fun p => if p.1 = k then (p.1, t) else p) else kvs ++ [(k, t)]
def setAt (d : D) (t : T) : T → Option T
  | .l xs => match toI d with
    | some j => (match ixN xs.length j with | some k => some (.l (xs.set k t)) | none => none)
    | none => none
  | .dk kvs => match D.key d with
    | some k => if kvs.length < lim ∧ (t.isZ = true ∨ (kvs.map (·.1)).Nodup) then some (.dk (putT k t kvs)) else none
    | none => none
  | .dt kvs => match D.tkey d with
    | some k => (match t with | .z y => if kvs.length < lim then some (.dt (putD k y kvs)) else none | _ => none)
    | none => none
  | _ => none
def isC (i : Nat) (ts : List T) : Bool := match ts[i]? with
  | some (.l _) => true
  | some (.dk _) => true
  | some (.dt _) => true
  | _ => false
def stM (i : Nat) (mk : M D) (me : M T) : S := bindS me fun t ts1 => if isC i ts1 = true then bindS mk (fun d ts2 => match ts2[i]? with
  | some u => match setAt d t u with
    | some u' => .nx (ts2.set i u')
    | none => .bad
  | none => .bad) ts1 else .bad
theorem KX.frame {g : Gx} {F G Mv : Hp} {σ : L2.St} {c : Str} {ts : List T} (h : KX g W F G σ c ts) (d : Dj Mv G) : KX g W F (jn Mv G) σ c ts := fun F' M' H' C s st e => h F' M' H' C s (st.drop d) e
theorem ROs.setR {g : Gx} {F A B M : Hp} {vs : List V} {ts : List T} {k : Nat} {v : V} {t : T} (r : ROs g F A vs ts) (hk : k < ts.length) (rv : RO g F B v t) (d : Dj A B) (s1 : Same A M) (s2 : Same B M) : ROs g F M (vs.set k v) (ts.set k t) := by
  obtain ⟨w, M1, M2, e1, _, a1, a2, dd, back⟩ := r.pick (List.getElem?_eq_getElem hk)
  exact back F B v t M (Same.refl _) rv (d.symm.sub (Same.refl _) a2) s2 (a2.trans s1)
theorem any_keys {α β : Type} {k : Key} : ∀ {xs : List (Key × α)} {ys : List (Key × β)}, xs.map (·.1) = ys.map (·.1) → xs.any (fun p => decide (p.1 = k)) = ys.any (fun p => decide (p.1 = k))
  | [], [], _ => rfl
  | x :: xs, y :: ys, e => by
    rw [List.map_cons, List.map_cons] at e
    injection e with e1 e2
    rw [List.any_cons, List.any_cons, any_keys e2, e1]
  | [], _ :: _, e => by cases e
  | _ :: _, [], e => by cases e
theorem ROs.repl {g : Gx} {F B : Hp} {k : Key} {v : V} {t : T} (rv : RO g F B v t) : ∀ {M A : Hp} {xs : List (Key × V)} {ys : List (Key × T)}, xs.map (·.1) = ys.map (·.1) → (xs.map (·.1)).Nodup → ROs g F A (xs.map (·.2)) (ys.map (·.2)) → Dj A B → Same A M → Same B M →
    ROs g F M ((xs.map fun p => if p.1 = k then (p.1, v) else p).map (·.2)) ((ys.map fun p => if p.1 = k then (p.1, t) else p).map (·.2))
  | M, A, [], [], _, _, _, _, _, _ => .nil
  | M, A, (k1, x) :: xs, (k2, y) :: ys, e, nd, r, d, sA, sB => by
    rw [List.map_cons, List.map_cons] at e
    injection e with e1 e2
    simp only at e1
    subst e1
    rw [List.map_cons, List.nodup_cons] at nd
    cases r with
    | @cons _ C E _ _ _ _ h1 h2 h3 h4 h5 =>
      by_cases hk : k1 = k
      · have rest : ∀ {α : Type} (u : α) (zs : List (Key × α)), k1 ∉ zs.map (·.1) → (zs.map fun p => if p.1 = k then (p.1, u) else p) = zs := fun u zs h => by
          refine (List.map_congr_left fun p hp => ?_).trans (List.map_id _)
          have : ¬ p.1 = k := fun q => h (by rw [hk, ← q]; exact List.mem_map_of_mem hp)
          rw [if_neg this]; rfl
        have n2 : k1 ∉ ys.map (·.1) := by rw [← e2]; exact nd.1
        simp only [List.map_cons, if_pos hk]
        rw [rest v xs nd.1, rest t ys n2]
        exact .cons (M1 := B) (M2 := E) rv h2 sB (h4.trans sA) (d.sub h4 (Same.refl _)).symm
      · simp only [List.map_cons, if_neg hk]
        have dC : Dj C B := d.sub h3 (Same.refl _)
        have dE : Dj E B := d.sub h4 (Same.refl _)
        exact .cons (M1 := C) (M2 := jn E B) h1 (ROs.repl rv e2 nd.2 h2 dE jn_l (jn_r dE)) (h3.trans sA) (jn_sub (h4.trans sA) sB) (dj_jn_r h5 dC)
  | _, _, [], _ :: _, e, _, _, _, _, _ => by cases e
  | _, _, _ :: _, [], e, _, _, _, _, _ => by cases e
theorem ROs.replZ {g : Gx} {F : Hp} {k : Key} {v : V} {d : D} (rv : Rp g F v d) : ∀ {A : Hp} {xs : List (Key × V)} {ys : List (Key × T)}, xs.map (·.1) = ys.map (·.1) → ROs g F A (xs.map (·.2)) (ys.map (·.2)) →
    ROs g F A ((xs.map fun p => if p.1 = k then (p.1, v) else p).map (·.2)) ((ys.map fun p => if p.1 = k then (p.1, T.z d) else p).map (·.2))
  | A, [], [], _, _ => .nil
  | A, (k1, x) :: xs, (k2, y) :: ys, e, r => by
    rw [List.map_cons, List.map_cons] at e
    injection e with e1 e2
    simp only at e1
    subst e1
    cases r with
    | @cons _ C E _ _ _ _ h1 h2 h3 h4 h5 =>
      by_cases hk : k1 = k
      · simp only [List.map_cons, if_pos hk]
        exact .cons (M1 := em) (M2 := E) (.z rv) (ROs.replZ rv e2 h2) Same.empty h4 Dj.em_l
      · simp only [List.map_cons, if_neg hk]
        exact .cons h1 (ROs.replZ rv e2 h2) h3 h4 h5
  | _, [], _ :: _, e, _ => by cases e
  | _, _ :: _, [], e, _ => by cases e
theorem putK_keys {α : Type} {k : Key} {v : V} {t : T} {xs : List (Key × V)} {ys : List (Key × T)} (e : xs.map (·.1) = ys.map (·.1)) : (putK xs k v).map (·.1) = (putT k t ys).map (·.1) := by
  unfold putK putT
  rw [any_keys e]
  split
  · have m : ∀ {β : Type} (u : β) (zs : List (Key × β)), (zs.map fun p => if p.1 = k then (p.1, u) else p).map (·.1) = zs.map (·.1) := fun u zs => by
      rw [List.map_map]
      refine List.map_congr_left fun p _ => ?_
      by_cases h : p.1 = k
      · simp [h]
      · simp [h]
    rw [m, m, e]
  · rw [List.map_append, List.map_append, e]; rfl
end
end Ar
/-! ArL: d[k] = v, slices, isinstance, a def's body. -/
namespace Ar
open PySem PySem.Spec PyProof.Rows L2
section
variable {X : Cx} {W : WX} {bs : List Nat} {e f kx : Expr} {x : Str} {p apos cpos pos pos' : Pos} {i : Nat}
theorem putD_rp {g : Gx} {F : Hp} {v : V} {d : D} : ∀ {ws : List (List Key × V)} {xs : List (List Key × D)}, ws.map (·.1) = xs.map (·.1) → RpAll g F (ws.map (·.2)) (xs.map (·.2)) → Rp g F v d → ∀ k : List Key,
    (putK ws k v).map (·.1) = (putD k d xs).map (·.1) ∧ RpAll g F ((putK ws k v).map (·.2)) ((putD k d xs).map (·.2)) := fun {ws xs} hk rs r k => by
  have anyk : ∀ {ws : List (List Key × V)} {xs : List (List Key × D)}, ws.map (·.1) = xs.map (·.1) → ws.any (fun p => decide (p.1 = k)) = xs.any (fun p => decide (p.1 = k)) := fun {ws} => by
    induction ws with
    | nil => intro xs e; cases xs with
      | nil => rfl
      | cons _ _ => cases e
    | cons w ws ih => intro xs e; cases xs with
      | nil => cases e
      | cons x xs =>
        rw [List.map_cons, List.map_cons] at e
        injection e with e1 e2
        rw [List.any_cons, List.any_cons, ih e2, e1]
  have repl : ∀ {ws : List (List Key × V)} {xs : List (List Key × D)}, ws.map (·.1) = xs.map (·.1) → RpAll g F (ws.map (·.2)) (xs.map (·.2)) →
      (ws.map fun p => if p.1 = k then (p.1, v) else p).map (·.1) = (xs.map fun p => if p.1 = k then (p.1, d) else p).map (·.1) ∧ RpAll g F ((ws.map fun p => if p.1 = k then (p.1, v) else p).map (·.2)) ((xs.map fun p => if p.1 = k then (p.1, d) else p).map (·.2)) := fun {ws} => by
    induction ws with
    | nil => intro xs e _; cases xs with
      | nil => exact ⟨rfl, .nil⟩
      | cons _ _ => cases e
    | cons w ws ih => intro xs e rs; cases xs with
      | nil => cases e
      | cons x xs =>
        obtain ⟨w1, w2⟩ := w
        obtain ⟨x1, x2⟩ := x
        rw [List.map_cons, List.map_cons] at e
        injection e with e1 e2
        simp only at e1
        subst e1
        rw [List.map_cons, List.map_cons] at rs
        cases rs with
        | cons r1 r2 =>
          obtain ⟨a, b⟩ := ih e2 r2
          simp only [List.map_cons]
          by_cases q : w1 = k
          · rw [if_pos q, if_pos q]
            exact ⟨by rw [a], .cons r b⟩
          · rw [if_neg q, if_neg q]
            exact ⟨by rw [a], .cons r1 b⟩
  unfold putK putD
  rw [anyk hk]
  split
  · exact repl hk rs
  · refine ⟨by rw [List.map_append, List.map_append, hk]; rfl, ?_⟩
    rw [List.map_append, List.map_append]
    exact rs.append (.cons r .nil)
theorem ps_stM {mk : M D} {me : M T} (hu : X.A.units + 1 < cLine) (hN : X.N[i]? = some x) (hv : Vis X.env.scope x) (hd : (x == ("__debug__" : Str)) = false) (hcd : (x == ("__classdict__" : Str)) = false) (he : PE X e (tD (gx X) W me)) (hk : PE X kx (tZ (gx X) W mk))
    (hs : swapsWithSole [.Subscript (.Name x p) kx pos'] e pos.line X.env = pure false) (hw : swappedStores [.Subscript (.Name x p) kx pos'] e X.env = pure none)
    (ha : ∀ v, assign (.Subscript (.Name x p) kx pos') X.env v = (do
      let ov ← holding [v] (eval (.Name x p) X.env)
      let iv ← holding [v, ov] (eval kx X.env)
      standAt pos'
      holding [v, ov, iv] (setItem ov iv v)
      release [v, ov, iv] [])) :
    PS X (.Assign [.Subscript (.Name x p) kx pos'] e pos) (tS (gx X) W bs (stM i mk me)) :=
  ps_imp (ps_asg he (pg_sub (pe_var hN hv hd hcd) hk (set_all hu) ha) hs hw rfl) fun D σ H ⟨F, Mm, G, ts, sa, k⟩ => tD_S sa k fun t ts1 _ k1 F1 Mv M1 H1 v s1 r st1 dj => by
    by_cases hi : isC i ts1 = true
    · rw [if_pos hi] at k1
      have there : ∃ a, σ[i]? = some (some (.ref a)) := by
        unfold isC at hi
        split at hi
        · rename_i xs q; obtain ⟨a, _, _, h, _⟩ := st1.lst dj q; exact ⟨a, h⟩
        · rename_i xs q; obtain ⟨a, _, _, h, _⟩ := st1.dkt dj q; exact ⟨a, h⟩
        · rename_i xs q; obtain ⟨a, _, h, _⟩ := st1.dtt dj q; exact ⟨a, h⟩
        · cases hi
      obtain ⟨a, ea⟩ := there
      refine ⟨.ref a, ea, F1, M1, jn Mv G, ts1, st1, ?_⟩
      unfold bindS at k1
      cases q : mk ts1 with
      | bad => rw [q] at k1; exact k1
      | ex c ts2 => rw [q] at k1; exact (KX.mono s1 k1.kx).frame dj
      | ok d ts2 =>
        rw [q] at k1
        dsimp only at k1
        intro F2 M2 H2 kv s2 rk st2
        have rt := r.mono s2
        cases q2 : ts2[i]? with
        | none => rw [q2] at k1; exact k1.elim
        | some u =>
          rw [q2] at k1
          dsimp only at k1
          cases u with
          | l xs =>
            unfold setAt at k1
            cases q3 : toI d with
            | none => rw [q3] at k1; exact k1.elim
            | some j =>
              rw [q3] at k1
              dsimp only at k1
              cases q4 : ixN xs.length j with
              | none => rw [q4] at k1; exact k1.elim
              | some kk =>
                rw [q4] at k1
                dsimp only at k1
                obtain ⟨a', ws, Mc, e2, hH, rs, dc, fin⟩ := st2.lst dj q2
                rw [ea] at e2; cases e2
                rw [toI_eq q3] at rk
                cases rk
                obtain ⟨M', st3, _⟩ := fin (ws.set kk v) (xs.set kk t) (jn Mc Mv) em (rs.setR (ixN_seq q4).2.1 rt dc jn_l (jn_r dc)) (Same.refl _) Same.empty Dj.em_r
                exact .inl ⟨a, ws, j, kk, rfl, rfl, hH, by rw [rs.length]; exact q4, k1 F2 M' _ σ (s1.trans s2) st3 Pin.refl⟩
          | dk xs =>
            unfold setAt at k1
            cases q3 : Ar.D.key d with
            | none => rw [q3] at k1; exact k1.elim
            | some kk =>
              rw [q3] at k1
              dsimp only at k1
              by_cases hz : xs.length < lim ∧ (t.isZ = true ∨ (xs.map (·.1)).Nodup)
              · rw [if_pos hz] at k1
                dsimp only at k1
                obtain ⟨a', ws, Mc, e2, hH, hkeys, rs, dc, fin⟩ := st2.dkt dj q2
                rw [ea] at e2; cases e2
                have ek : kv = kV kk := by
                  rw [key_eq q3] at rk
                  exact rp_key rk
                subst ek
                have hlen : ws.length = xs.length := by rw [← List.length_map (f := (·.1)), hkeys, List.length_map]
                have hnew : ROs (gx X) F2 (jn Mc Mv) ((putK ws kk v).map (·.2)) ((putT kk t xs).map (·.2)) := by
                  unfold putK putT
                  rw [any_keys hkeys]
                  split
                  · rcases hz.2 with z | z
                    · cases t with
                      | z d0 =>
                        cases rt with
                        | z rt => exact (ROs.replZ rt hkeys rs).ext jn_l
                      | _ => cases z
                    · exact ROs.repl rt hkeys (by rw [hkeys]; exact z) rs dc jn_l (jn_r dc)
                  · rw [List.map_append, List.map_append]
                    exact rs.append (.cons (M1 := Mv) (M2 := em) rt .nil (Same.refl _) Same.empty Dj.em_r) dc jn_l (jn_r dc)
                obtain ⟨M', st3, _⟩ := fin (putK ws kk v) (putT kk t xs) (jn Mc Mv) em (putK_keys (α := Nat) hkeys) hnew (Same.refl _) Same.empty Dj.em_r
                exact .inr ⟨a, _, rfl, DPut.k hH (by rw [hlen]; exact lim_lt' hz.1), k1 F2 M' _ σ (s1.trans s2) st3 Pin.refl⟩
              · rw [if_neg hz] at k1; exact k1.elim
          | dt xs =>
            unfold setAt at k1
            cases q3 : Ar.D.tkey d with
            | none => rw [q3] at k1; exact k1.elim
            | some kk =>
              rw [q3] at k1
              dsimp only at k1
              cases t with
              | z y =>
                dsimp only at k1
                by_cases hz : xs.length < lim
                · rw [if_pos hz] at k1
                  dsimp only at k1
                  obtain ⟨a', ws, e2, hH, hkeys, rs, fin⟩ := st2.dtt dj q2
                  rw [ea] at e2; cases e2
                  obtain ⟨b, eb, hb⟩ := (Vh.r rk).tkey st2.hc.fh q3
                  subst eb
                  cases rt with
                  | z rt =>
                    have hlen : ws.length = xs.length := by rw [← List.length_map (f := (·.1)), hkeys, List.length_map]
                    obtain ⟨h1, h2⟩ := putD_rp (v := v) (d := y) hkeys rs rt kk
                    obtain ⟨M', st3, _⟩ := fin _ _ h1 h2
                    exact .inr ⟨a, _, rfl, DPut.t hH hb (by rw [hlen]; exact lim_lt' hz), k1 F2 M' _ σ (s1.trans s2) (by rw [jn_em] at st3; exact st3) Pin.refl⟩
                · rw [if_neg hz] at k1; exact k1.elim
              | _ => exact k1.elim
          | _ => exact k1.elim
    · rw [if_neg hi] at k1; exact k1.elim
/-! ### slices -/
def optI (m : Option (M D)) : M (Option Int) := match m with
  | none => M.ret none
  | some m => m >>= fun d => match toI d with | some i => M.ret (some i) | none => stop
def slM (ma : M D) (lo hi : Option (M D)) : M T := ma >>= fun d => optI lo >>= fun l => optI hi >>= fun h => opt (oSl d l h)
def tOp' (g : Gx) (W : WX) (m : M (Option Int)) : TO := fun σ H Q => ∃ F Mm G ts, Sta g F Mm G H σ ts ∧ match m ts with
  | .bad => False
  | .ok o ts' => ∀ F' M' H', Same F F' → Sta g F' M' G H' σ ts' → Q o H'
  | .ex c ts' => KX g W F G σ c ts'
theorem po_imp {o : Option Expr} {t t' : TO} (h : PO X o t) (i : ∀ σ H Q, t' σ H Q → t σ H Q) : PO X o t' := ⟨fun pins s σ H Q I q => h.run pins s σ H Q I (i σ H Q q)⟩
theorem po_noneM : PO X none (tOp' (gx X) W (optI none)) := po_imp po_none fun σ H Q ⟨F, Mm, G, ts, st, k⟩ => k F Mm H (Same.refl _) st
theorem po_someM {m : M D} (h : PE X e (tZ (gx X) W m)) : PO X (some e) (tOp' (gx X) W (optI (some m))) := po_imp (po_some h) fun σ H Q ⟨F, Mm, G, ts, st, k⟩ => by
  let K : R (Option Int) → Prop := fun r => match r with
    | .bad => False
    | .ok o ts' => ∀ F' M' H', Same F F' → Sta (gx X) F' M' G H' σ ts' → Q o H'
    | .ex c ts' => KX (gx X) W F G σ c ts'
  refine tZ_then (K := K) st id (fun _ _ z => z) k fun d ts1 _ k1 F1 M1 H1 v s1 r st1 => ?_
  cases q : toI d with
  | none => simp only [q] at k1; exact k1.elim
  | some j =>
    simp only [q] at k1
    rw [toI_eq q] at r
    cases r
    exact ⟨j, rfl, k1 F1 M1 H1 s1 st1⟩
theorem tO_then {α : Type} {g : Gx} {m : M (Option Int)} {h : Option Int → M α} {K : R α → Prop} {F Mm G H : Hp} {σ : L2.St} {ts : List T} {Q : Option Int → Hp → Prop} (st : Sta g F Mm G H σ ts) (hb : ¬ K .bad) (hx : ∀ c ts', K (.ex c ts') → KX g W F G σ c ts')
    (k : K ((m >>= h) ts)) (go : ∀ t ts', K (h t ts') → ∀ F' M' H', Same F F' → Sta g F' M' G H' σ ts' → Q t H') : tOp' g W m σ H Q := by
  refine ⟨F, Mm, G, ts, st, ?_⟩
  cases q : m ts with
  | bad => rw [bind_bad q] at k; exact hb k
  | ex c ts' => rw [bind_ex q] at k; exact hx c ts' k
  | ok t ts' => rw [bind_ok q] at k; exact go t ts' k
theorem pe_slM {ma : M D} {lo hi : Option Expr} {ml mh : Option (M D)} {p2 : Pos} (ha : PE X e (tZ (gx X) W ma)) (hl : PO X lo (tOp' (gx X) W (optI ml))) (hh : PO X hi (tOp' (gx X) W (optI mh))) :
    PE X (.Subscript e (.Slice lo hi none p2) pos) (tD (gx X) W (slM ma ml mh)) :=
  pe_imp (pe_slice sl_all ha hl hh) fun σ H Q ⟨F, Mm, G, ts, st, k⟩ => by
    refine tZ_then (K := KD (gx X) W F G σ Q) st id (fun _ _ z => z) k fun d ts1 _ k1 F1 M1 H1 v s1 r1 st1 => ?_
    refine tO_then (K := KD (gx X) W F1 G σ Q) st1 id (fun _ _ z => z) (KD.mono s1 k1) fun l ts2 k2 F2 M2 H2 s2 st2 => ?_
    refine tO_then (K := KD (gx X) W F2 G σ Q) st2 id (fun _ _ z => z) (KD.mono s2 k2) fun h ts3 k3 F3 M3 H3 s3 st3 => ?_
    obtain ⟨t, e, o⟩ := KD.opt st3 (KD.mono s3 k3)
    exact opSl l h F3 H3 v d t Q st3.hc.fh (.r (r1.mono (s2.trans s3))) e o
/-! ### isinstance -/
def tyD : D → Option String
  | .non => some "NoneType"
  | .bl _ => some "bool"
  | .int _ => some "int"
  | .str _ => some "str"
  | .lst _ => some "list"
  | .tup _ => some "tuple"
  | .dk _ => some "dict"
  | _ => none
def isi (ty : String) (d : D) : Option T := match tyD d with
  | some a => match kitB a ty with
    | some b => some (.z (.bl b))
    | none => none
  | none => none
theorem Vh.ty {g : Gx} {F H : Hp} {v : V} {d : D} {a : String} (s : Same F H) (h : Vh g F H v d) (e : tyD d = some a) : TyX g.K H v (.type a) := by
  cases d with
  | non => cases e; cases h.non; exact .base .non
  | bl b => cases e; cases h.bl; exact .base (.bl _)
  | int b => cases e; cases h.int; exact .base (.int _)
  | str b => cases e; cases h.str; exact .base (.str _)
  | lst l => cases e; obtain ⟨p, xs, rfl, hp, _⟩ := h.lst s; exact .base (.lst hp)
  | tup l =>
    cases e
    obtain ⟨p, xs, rfl, hp, _⟩ := h.tup s
    rcases hp with (hp | ⟨o, hp⟩) | ⟨o, its, n, hk, hc, _⟩
    · exact .base (.tup hp)
    · exact .fTuple hp
    · exact .kTuple hk hc
  | dk l =>
    cases e
    obtain ⟨p, xs, rfl, hp, _⟩ := h.dkO s
    rcases hp with hp | ⟨o, hp⟩
    · exact .base (.dK hp)
    · exact .fDict hp
  | dt l => cases e
  | ob c l => cases e
  | st l => cases e
  | scr l => cases e
  | fn l => cases e
theorem pe_isiM {ty : String} {y : Str} {p2 : Pos} {m : M D} (hg : Gl X "isinstance") (hm : X.mg "isinstance" = none) (hg2 : Gl X y) (hm2 : X.mg y = none) (hb : bootBuiltins y = some (.type ty)) (hn : y ≠ "__name__") (hdb : (y == ("__debug__" : Str)) = false)
    (ha : PE X e (tV (gx X) W m)) (n : nst e = true) : PE X (.Call (.Name "isinstance" p) [e, .Name y p2] [] pos) (tD (gx X) W (m >>= fun d => opt (isi ty d))) :=
  pe_imp (pe_callB call_isi hg hm (by decide +kernel) (pa_cons ha (pa_cons (pe_bltn hg2 hm2 hb (v := .ty ty) rfl hn hdb) pa_nil rfl) (star_of n _ _)) (by decide +kernel) (by decide +kernel) (star_of n _ _) rfl) fun σ H Q h =>
    one_V (R1' := fun x H Q => rIsi X.K [x, .ty ty] H Q) (fun F H x dx t Q s hx e q => by
      unfold isi at e
      cases q1 : tyD dx with
      | none => rw [q1] at e; cases e
      | some a =>
        rw [q1] at e
        dsimp only at e
        cases q2 : kitB a ty with
        | none => rw [q2] at e; cases e
        | some b =>
          rw [q2] at e; cases e
          exact ⟨x, .ty ty, .type a, .type ty, b, rfl, .ty ty, hx.ty s q1, kit_ty q2, q.val (.bl b)⟩) h
def isi2 (t1 t2 : String) (d : D) : Option T := match tyD d with
  | some a => match kitB a t1, kitB a t2 with
    | some b, some c => some (.z (.bl (b || c)))
    | _, _ => none
  | none => none
theorem Vh.grow {g : Gx} {F H : Hp} {v : V} {d : D} {q : Addr} {o : HO} (h : Vh g F H v d) (n : H q = none) : Vh g F (upd H q o) v d := by
  cases h with
  | r h => exact .r h
  | l h r => exact .l (same_upd n _ _ h) r
  | dk h k r => exact .dk (same_upd n _ _ h) k r
  | dt h k r => exact .dt (same_upd n _ _ h) k r
theorem pe_isi2M {t1 t2 : String} {y1 y2 : Str} {p1 p2 p3 : Pos} {kk : Nat} {m : M D} (hg : Gl X "isinstance") (hm : X.mg "isinstance" = none) (hg1 : Gl X y1) (hm1 : X.mg y1 = none) (hb1 : bootBuiltins y1 = some (.type t1)) (hn1 : y1 ≠ "__name__") (hdb1 : (y1 == ("__debug__" : Str)) = false)
    (hg2 : Gl X y2) (hm2 : X.mg y2 = none) (hb2 : bootBuiltins y2 = some (.type t2)) (hn2 : y2 ≠ "__name__") (hdb2 : (y2 == ("__debug__" : Str)) = false)
    (ha : PE X e (tV (gx X) W m)) (n : nst e = true) : PE X (.Call (.Name "isinstance" p) [e, .Tuple [.Name y1 p1, .Name y2 p2] kk p3] [] pos) (tD (gx X) W (m >>= fun d => opt (isi2 t1 t2 d))) :=
  pe_imp (pe_callB call_isiT hg hm (by decide +kernel) (pa_cons ha (pa_cons (pe_tup (pa_cons (pe_bltn hg1 hm1 hb1 (v := .ty t1) rfl hn1 hdb1) (pa_cons (pe_bltn hg2 hm2 hb2 (v := .ty t2) rfl hn2 hdb2) pa_nil rfl) rfl)) pa_nil rfl) (star_of n _ _)) (by decide +kernel) (by decide +kernel) (star_of n _ _) rfl) fun σ H Q ⟨F, Mm, G, ts, st, k⟩ => by
    refine tV_then (K := KD (gx X) W F G σ Q) st id (fun _ _ z => z) k fun dx ts1 _ k1 F1 M1 H1 v s1 r1 st1 => ?_
    refine ⟨by show 2 ≤ sizeLine; decide, fun pq hp => ?_⟩
    unfold isi2 at k1
    cases q1 : tyD dx with
    | none => rw [q1] at k1; exact k1.elim
    | some a =>
      rw [q1] at k1
      dsimp only at k1
      cases q2 : kitB a t1 with
      | none => rw [q2] at k1; exact k1.elim
      | some b =>
        cases q3 : kitB a t2 with
        | none => rw [q2, q3] at k1; exact k1.elim
        | some c =>
          rw [q2, q3] at k1
          have ty := (r1.grow (o := .tup [.ty t1, .ty t2]) hp).ty (st1.hc.fh.trans (same_upd hp)) q1
          obtain ⟨sN, stN⟩ := st1.newF (o := .tup [.ty t1, .ty t2]) hp
          refine ⟨v, pq, [.ty t1, .ty t2], .type a, [.type t1, .type t2], b || c, rfl, upd_same, .cons (.ty _) (.cons (.ty _) .nil), ty, ?_, k1 _ em M1 _ _ (s1.trans sN) (.z (.bl _)) stN Dj.em_l⟩
          cases b with
          | true => exact kitAny_cons (kit_ty q2) (fun z => nomatch z) fun _ => rfl
          | false => exact kitAny_cons (kit_ty q2) (fun _ => by
              cases c with
              | true => exact kitAny_cons (kit_ty q3) (fun z => nomatch z) fun _ => rfl
              | false => exact kitAny_cons (kit_ty q3) (fun _ => kitAny_nil) fun z => nomatch z) fun z => nomatch z
end
/-! ### a def's body -/
/-- the result of a body, for its caller: the parameters that are never stored come back -/
def pickP : List Bool → List T → List T
  | true :: r, t :: ts => t :: pickP r ts
  | false :: r, _ :: ts => .gone :: pickP r ts
  | _, _ => []
def bodyR (n : Nat) (kp : List Bool) (m : S) (args : List T) : R T := match m (args ++ List.replicate n .gone) with
  | .nx ts => if ts.length = args.length + n then .ok (.z .non) (pickP kp ts) else .bad
  | .rt t ts => if ts.length = args.length + n then .ok t (pickP kp ts) else .bad
  | .ex c ts => if ts.length = args.length + n then .ex c (pickP kp ts) else .bad
  | _ => .bad
def keptOf : Nat → List Bool → List Nat
  | _, [] => []
  | i, true :: r => i :: keptOf (i + 1) r
  | i, false :: r => keptOf (i + 1) r
theorem pick_ok {g : Gx} {F : Hp} {σ : L2.St} : ∀ (kp : List Bool) (off : Nat) (ts : List T) (M : Hp) (ws vs : List V), ROs g F M ws ts → (∀ (i : Nat) (v : V) (t : T), ws[i]? = some v → ts[i]? = some t → t = .gone ∨ σ[off + i]? = some (some v)) →
    vs.length = kp.length → kp.length ≤ ts.length → (∀ (i : Nat) (v : V), kp[i]? = some true → vs[i]? = some v → σ[off + i]? = some (some v)) → ROs g F M vs (pickP kp ts)
  | [], _, ts, M, ws, [], _, _, _, _, _ => by cases ts <;> exact .nil
  | true :: r, off, t :: ts, M, w :: ws, v :: vs, .cons (M1 := A) (M2 := B) h1 h2 h3 h4 h5, q, hl, hn, hk => by
    rw [pickP]
    have rest := pick_ok r (off + 1) ts B ws vs h2 (fun i u t' a b => by
      have := q (i + 1) u t' (by simpa using a) (by simpa using b)
      rw [show off + 1 + i = off + (i + 1) by omega]; exact this) (by simpa using hl) (by simpa using hn) (fun i u a b => by
      have := hk (i + 1) u (by simpa using a) (by simpa using b)
      rw [show off + 1 + i = off + (i + 1) by omega]; exact this)
    have e1 := hk 0 v rfl rfl
    rcases q 0 w t rfl rfl with z | z
    · subst z
      exact .cons (M1 := A) (M2 := B) .gone rest h3 h4 h5
    · rw [z] at e1; cases e1
      exact .cons h1 rest h3 h4 h5
  | false :: r, off, t :: ts, M, w :: ws, v :: vs, .cons (M1 := A) (M2 := B) h1 h2 h3 h4 h5, q, hl, hn, hk => by
    rw [pickP]
    have rest := pick_ok r (off + 1) ts B ws vs h2 (fun i u t' a b => by
      have := q (i + 1) u t' (by simpa using a) (by simpa using b)
      rw [show off + 1 + i = off + (i + 1) by omega]; exact this) (by simpa using hl) (by simpa using hn) (fun i u a b => by
      have := hk (i + 1) u (by simpa using a) (by simpa using b)
      rw [show off + 1 + i = off + (i + 1) by omega]; exact this)
    exact .cons (M1 := A) (M2 := B) .gone rest h3 h4 h5
  | b :: r, _, [], _, _, _, _, _, _, hn, _ => by simp at hn
  | b :: r, _, _ :: _, _, _ :: _, [], _, _, hl, _, _ => by simp at hl
  | [], _, _, _, _, _ :: _, _, _, hl, _, _ => by simp at hl
theorem kept_mem : ∀ (kp : List Bool) (off i : Nat), kp[i]? = some true → off + i ∈ keptOf off kp
  | true :: r, off, 0, _ => by rw [keptOf]; exact List.mem_cons_self
  | true :: r, off, i + 1, h => by
    rw [keptOf]
    have := kept_mem r (off + 1) i (by simpa using h)
    rw [show off + 1 + i = off + (i + 1) by omega] at this
    exact List.mem_cons_of_mem _ this
  | false :: r, off, i + 1, h => by
    rw [keptOf]
    have := kept_mem r (off + 1) i (by simpa using h)
    rw [show off + 1 + i = off + (i + 1) by omega] at this
    exact this
  | false :: r, off, 0, h => by simp at h
  | [], _, i, h => by simp at h
theorem ROs.pad {g : Gx} {F : Hp} : ∀ (n : Nat) {M : Hp} {vs : List V} {ts : List T}, ROs g F M vs ts → ROs g F M (vs ++ List.replicate n .non) (ts ++ List.replicate n .gone) := fun n {M vs ts} h => by
  have z : ∀ n : Nat, ROs g F em (List.replicate n V.non) (List.replicate n T.gone) := fun n => by
    induction n with
    | zero => exact .nil
    | succ n ih => exact .cons (M1 := em) (M2 := em) .gone ih (Same.refl _) (Same.refl _) Dj.em_l
  exact h.append (z n) Dj.em_r (Same.refl _) Same.empty
section
variable {P : Program} {w : World} {K : PySem.W.Frag} {mg : Str → Option Value} {base : Heap}
/-- THE RULE: a def keeps the promise that its mirror states -/
theorem fn_okM {x qual : Str} {st : Stmt} {f : Addr} {fd : FuncData} {N ps : List Str} {k : Nat} {m : S} {kp : List Bool} (F : Fun K x qual st f fd) (Sc : FnScope N ps (defScope st)) (hkp : kp.length = ps.length)
    (hbody : ∀ (cdv : Value) (A : Around) (outer : List Env) (s : Shared) (H : Hp) (E : XK), Room k (A.deeper (envOfC qual (defScope st) s.heap.objs.size f cdv)) →
      PSs (cxOf (L2.CX P w) P w K mg base N qual (defScope st) f cdv A outer s H E) (defBody st) (tS ⟨K, mg, P, w⟩ (fun c d _ H => E c d H) (keptOf 0 kp) m)) :
    FnOk P w K mg base (L2.CX P w) (k + 1) f fd ps (spF ⟨K, mg, P, w⟩ ps.length (bodyR (N.length - ps.length) kp m)) := by
  refine F.okX Sc (fun vs H Q E h => h.1) (fun cdv A outer s H vs Q E hr h => ⟨_, hbody cdv A outer s H E hr, ?_⟩)
  obtain ⟨hl, Fz, Mm, G, tl, hc, ro, h⟩ := h
  have hN : ps.length ≤ N.length := by have := congrArg List.length Sc.pre; rw [List.length_take] at this; omega
  have htl : tl.length = ps.length := by rw [← ro.length]; exact hl
  have hst : L2.start N vs = vs.map some ++ List.replicate (N.length - ps.length) none := by unfold L2.start; rw [hl]
  have st0 : Sta ⟨K, mg, P, w⟩ Fz Mm G H (L2.start N vs) (tl ++ List.replicate (N.length - ps.length) .gone) := by
    refine ⟨hc, ⟨_, ro.pad _, fun i v t h1 h2 => ?_⟩, ?_⟩
    · by_cases hi : i < tl.length
      · rw [List.getElem?_append_left (by rw [hl, ← htl]; exact hi)] at h1
        right
        rw [hst, List.getElem?_append_left (by rw [List.length_map, hl, ← htl]; exact hi), List.getElem?_map, h1]; rfl
      · rw [List.getElem?_append_right (by omega), List.getElem?_replicate] at h2
        split at h2
        · cases h2; exact .inl rfl
        · cases h2
    · rw [hst, List.length_append, List.length_append, List.length_map, List.length_replicate, List.length_replicate, hl, htl]
  have pins : ∀ {σ' : L2.St}, Pin (keptOf 0 kp) (L2.start N vs) σ' → ∀ (i : Nat) (v : V), kp[i]? = some true → vs[i]? = some v → σ'[0 + i]? = some (some v) := fun {σ'} p i v h1 h2 => by
    rw [p _ (kept_mem kp 0 i h1), Nat.zero_add, hst, List.getElem?_append_left (by rw [List.length_map]; exact (List.getElem?_eq_some_iff.mp h2).1), List.getElem?_map, h2]; rfl
  have fins : ∀ {F' M' G' H' : Hp} {σ' : L2.St} {ts : List T}, Sta ⟨K, mg, P, w⟩ F' M' G' H' σ' ts → Pin (keptOf 0 kp) (L2.start N vs) σ' → σ'.length = N.length → ROs ⟨K, mg, P, w⟩ F' M' vs (pickP kp ts) := fun {F' M' G' H' σ' ts} s p hn => by
    obtain ⟨ws, r, q⟩ := s.vs
    exact pick_ok kp 0 ts M' ws vs r (fun i v t a b => by rw [Nat.zero_add]; exact q i v t a b) (by rw [hl, hkp]) (by rw [← s.len, hn, hkp]; exact hN) (pins p)
  refine ⟨Fz, Mm, G, _, st0, ?_⟩
  unfold bodyR at h
  have hw : ∀ {F' M' G' H' : Hp} {σ' : L2.St} {ts : List T}, Sta ⟨K, mg, P, w⟩ F' M' G' H' σ' ts → ts.length = tl.length + (N.length - ps.length) → σ'.length = N.length := fun {F' M' G' H' σ' ts} s e => by
    rw [s.len, e, htl]; omega
  cases q : m (tl ++ List.replicate (N.length - ps.length) .gone) with
  | bad => rw [q] at h; exact h.elim
  | bk ts => rw [q] at h; exact h.elim
  | ct ts => rw [q] at h; exact h.elim
  | nx ts =>
    rw [q] at h
    dsimp only at h
    by_cases e : ts.length = tl.length + (N.length - ps.length)
    · rw [if_pos e] at h
      exact fun F' M' H' σ' s st p => h F' em M' H' .non s (.z .non) (fins st p (hw st e)) st.hc Dj.em_l
    · rw [if_neg e] at h; exact h.elim
  | rt t ts =>
    rw [q] at h
    dsimp only at h
    by_cases e : ts.length = tl.length + (N.length - ps.length)
    · rw [if_pos e] at h
      exact fun F' Mv M' H' σ' v s r st d p => h F' Mv M' H' v s r (fins st p (hw st e)) st.hc d
    · rw [if_neg e] at h; exact h.elim
  | ex c ts =>
    rw [q] at h
    dsimp only at h
    by_cases e : ts.length = tl.length + (N.length - ps.length)
    · rw [if_pos e] at h
      exact fun F' M' H' σ' C s st p ec => h F' M' H' C s (fins st p (hw st e)) st.hc ec
    · rw [if_neg e] at h; exact h.elim
end
end Ar
/-! ArM: lending: an expression that only looks; what comes of it is fresh. -/
namespace Ar
open PySem PySem.Spec PyProof.Rows L2
mutual
/-- what is no list, no dict, no object, all through -/
def D.atom : D → Bool
  | .non => true
  | .bl _ => true
  | .int _ => true
  | .str _ => true
  | .fn _ => true
  | .tup l => D.atoms l
  | _ => false
def D.atoms : List D → Bool
  | [] => true
  | d :: ds => D.atom d && D.atoms ds
end
mutual
def T.fresh : T → Bool
  | .z d => d.atom
  | .l ts => T.freshs ts
  | .dk kvs => T.freshk kvs
  | .dt kvs => false
  | .ob _ fs => T.fresho fs
  | .tp ts => T.freshs ts
  | .gone => true
def T.freshs : List T → Bool
  | [] => true
  | t :: ts => T.fresh t && T.freshs ts
def T.freshk : List (Key × T) → Bool
  | [] => true
  | (_, t) :: ts => T.fresh t && T.freshk ts
def T.fresho : List (Str × T) → Bool
  | [] => true
  | (_, t) :: ts => T.fresh t && T.fresho ts
end
/-- the places of lists, dicts and objects alone -/
def isCell : HO → Prop
  | .lst _ => True
  | .dK _ => True
  | .dT _ => True
  | .ins _ _ _ => True
  | .own _ => True
  | _ => False
def Cells (M : Hp) : Prop := ∀ a o, M a = some o → isCell o
theorem Cells.jn {A B : Hp} (h : Cells A) (k : Cells B) : Cells (jn A B) := fun a o e => by
  rcases jn_some e with q | q
  · exact h a o q
  · exact k a o q
theorem Cells.upd {A : Hp} {p : Addr} {u : HO} (h : Cells A) (k : isCell u) : Cells (upd A p u) := fun a o e => by
  by_cases q : a = p
  · subst q; rw [upd_same] at e; cases e; exact k
  · rw [upd_ne q] at e; exact h a o e
/-- F without M -/
def mn (F M : Hp) : Hp := fun a => match M a with | some _ => none | none => F a
theorem mn_sub {F M : Hp} : Same (mn F M) F := fun a o e => by
  unfold mn at e
  split at e
  · cases e
  · exact e
theorem mn_dj {F M : Hp} : Dj (mn F M) M := fun a => by
  unfold mn
  cases M a with
  | none => exact .inr rfl
  | some o => exact .inl rfl
theorem mn_of {F F' M : Hp} (s : Same F F') (d : Dj F M) : Same F (mn F' M) := fun a o e => by
  unfold mn
  rw [d.ne e]
  exact s a o e
theorem mn_at {F M : Hp} {a : Addr} {o : HO} (e : F a = some o) (c : Cells M) (s : Same M F) (n : ¬ isCell o) : mn F M a = some o := by
  unfold mn
  cases q : M a with
  | none => exact e
  | some u =>
    have := s a u q
    rw [e] at this
    cases this
    exact absurd (c a _ q) n
section
variable {g : Gx} {F M0 : Hp}
mutual
theorem Rp.atom (c : Cells M0) (s : Same M0 F) : ∀ {v d}, Rp g F v d → d.atom = true → Rp g (mn F M0) v d
  | _, _, .non, _ => .non
  | _, _, .bl b, _ => .bl b
  | _, _, .int b, _ => .int b
  | _, _, .str b, _ => .str b
  | _, _, .fn b, _ => .fn b
  | _, _, .tup h r, e => .tup (mn_at h c s (fun z => z)) (RpAll.atom c s r (by rw [D.atom] at e; exact e))
  | _, _, .ktup h l r, e => .ktup h l (RpAll.atom c s r (by rw [D.atom] at e; exact e))
  | _, _, .lst _ _, e => by rw [D.atom] at e <;> first | cases e | (intros; simp_all)
  | _, _, .dk _ _ _, e => by rw [D.atom] at e <;> first | cases e | (intros; simp_all)
  | _, _, .dt _ _ _, e => by rw [D.atom] at e <;> first | cases e | (intros; simp_all)
  | _, _, .st _ _ _, e => by rw [D.atom] at e <;> first | cases e | (intros; simp_all)
  | _, _, .scr _, e => by rw [D.atom] at e <;> first | cases e | (intros; simp_all)
  | _, _, .ob _ _ _ _ _, e => by rw [D.atom] at e <;> first | cases e | (intros; simp_all)
theorem RpAll.atom (c : Cells M0) (s : Same M0 F) : ∀ {v d}, RpAll g F v d → D.atoms d = true → RpAll g (mn F M0) v d
  | _, _, .nil, _ => .nil
  | _, _, .cons h t, e => by
    rw [D.atoms, Bool.and_eq_true] at e
    exact .cons (Rp.atom c s h e.1) (RpAll.atom c s t e.2)
end
end
theorem freshk_map : ∀ {ts : List (Key × T)}, T.freshk ts = true → T.freshs (ts.map (·.2)) = true
  | [], _ => rfl
  | (k, t) :: ts, e => by
    rw [T.freshk, Bool.and_eq_true] at e
    rw [List.map_cons, T.freshs, e.1, freshk_map e.2]; rfl
theorem fresho_map : ∀ {ts : List (Str × T)}, T.fresho ts = true → T.freshs (ts.map (·.2)) = true
  | [], _ => rfl
  | (k, t) :: ts, e => by
    rw [T.fresho, Bool.and_eq_true] at e
    rw [List.map_cons, T.freshs, e.1, fresho_map e.2]; rfl
mutual
theorem RO.fresh {g : Gx} {F M0 : Hp} (c : Cells M0) (s : Same M0 F) : ∀ {M v t}, RO g F M v t → t.fresh = true → RO g (mn F M0) M v t
  | _, _, .z d, .z h, e => .z (h.atom c s (by rw [T.fresh] at e; exact e))
  | _, _, .l ts, .l h1 h2 h3 h4, e => .l h1 h2 h3 (ROs.fresh c s h4 (by rw [T.fresh] at e; exact e))
  | _, _, .dk ts, .dk h1 h2 h3 h4 h5, e => .dk h1 h2 h3 h4 (ROs.fresh c s h5 (freshk_map (by rw [T.fresh] at e; exact e)))
  | _, _, _, .dt h1 h2 h3, e => by rw [T.fresh] at e; cases e
  | _, _, .ob n ts, .ob h1 h2 h3 h4 h5 h6 h7 h8, e => .ob h1 h2 h3 h4 h5 h6 h7 (ROs.fresh c s h8 (fresho_map (by rw [T.fresh] at e; exact e)))
  | _, _, .tp ts, .tp h1 h2, e => .tp (by
      unfold mn
      split
      · rename_i o q
        have := s _ _ q
        rw [h1] at this; cases this
        exact (c _ _ q).elim
      · exact h1) (ROs.fresh c s h2 (by rw [T.fresh] at e; exact e))
  | _, _, _, .gone, e => .gone
theorem ROs.fresh {g : Gx} {F M0 : Hp} (c : Cells M0) (s : Same M0 F) : ∀ {M vs ts}, ROs g F M vs ts → T.freshs ts = true → ROs g (mn F M0) M vs ts
  | _, _, _, .nil, _ => .nil
  | _, _, t :: ts, .cons h1 h2 h3 h4 h5, e => by
    rw [T.freshs, Bool.and_eq_true] at e
    exact .cons (RO.fresh c s h1 e.1) (ROs.fresh c s h2 e.2) h3 h4 h5
end
/-- an owned tree's own places -/
theorem cells_em : Cells em := fun a o e => by cases e
mutual
theorem RO.shrink {g : Gx} {F : Hp} : ∀ {M v t}, RO g F M v t → ∃ M0, Same M0 M ∧ Cells M0 ∧ RO g F M0 v t
  | _, _, _, .z h => ⟨em, Same.empty, cells_em, .z h⟩
  | _, _, _, .l (a := a) (xs := xs) h1 h2 h3 h4 => by
    obtain ⟨M0, s, c, r⟩ := ROs.shrink h4
    have n := s.free h3
    exact ⟨upd M0 a (.lst xs), same_upd_l (s.trans h2) h1, c.upd (u := .lst xs) trivial, .l upd_same (same_upd n) n r⟩
  | _, _, _, .dk (a := a) (kvs := kvs) h1 h2 h3 h4 h5 => by
    obtain ⟨M0, s, c, r⟩ := ROs.shrink h5
    have n := s.free h3
    exact ⟨upd M0 a (.dK kvs), same_upd_l (s.trans h2) h1, c.upd (u := .dK kvs) trivial, .dk upd_same (same_upd n) n h4 r⟩
  | _, _, _, .dt (a := a) (kvs := kvs) h1 h2 h3 => ⟨upd em a (.dT kvs), same_upd_l Same.empty h1, cells_em.upd (u := .dT kvs) trivial, .dt upd_same h2 h3⟩
  | _, _, _, .ob (a := a) (C := C) (dx := dx) (fs := fs) h1 h2 h3 h4 h5 h6 h7 h8 => by
    obtain ⟨M0, s, c, r⟩ := ROs.shrink h8
    have n1 := s.free h5
    have n2 := s.free h6
    have hne : a ≠ dx := by intro e; rw [← e, h2] at h3; cases h3
    have nn : (upd M0 dx (.own a)) a = none := by rw [upd_ne hne]; exact n1
    exact ⟨upd (upd M0 dx (.own a)) a (.ins C dx fs), same_upd_l (same_upd_l (s.trans h4) h3) h2, (c.upd (u := .own a) trivial).upd (u := .ins C dx fs) trivial, .ob h1 upd_same (by rw [upd_ne (Ne.symm hne)]; exact upd_same) ((same_upd n2).trans (same_upd nn)) n1 n2 h7 r⟩
  | _, _, _, .tp h1 h2 => by
    obtain ⟨M0, s, c, r⟩ := ROs.shrink h2
    exact ⟨M0, s, c, .tp h1 r⟩
  | _, _, _, .gone => ⟨em, Same.empty, cells_em, .gone⟩
theorem ROs.shrink {g : Gx} {F : Hp} : ∀ {M vs ts}, ROs g F M vs ts → ∃ M0, Same M0 M ∧ Cells M0 ∧ ROs g F M0 vs ts
  | _, _, _, .nil => ⟨em, Same.empty, cells_em, .nil⟩
  | _, _, _, .cons h1 h2 h3 h4 h5 => by
    obtain ⟨A, sA, cA, rA⟩ := RO.shrink h1
    obtain ⟨B, sB, cB, rB⟩ := ROs.shrink h2
    have d := h5.sub sA sB
    exact ⟨jn A B, jn_sub (sA.trans h3) (sB.trans h4), cA.jn cB, .cons rA rB jn_l (jn_r d) d⟩
end
theorem Sta.shrink {g : Gx} {F Mm G H : Hp} {σ : L2.St} {ts : List T} (st : Sta g F Mm G H σ ts) : ∃ M0, Cells M0 ∧ Sta g F M0 G H σ ts := by
  obtain ⟨vs, r, q⟩ := st.vs
  obtain ⟨M0, s, c, r0⟩ := r.shrink
  have hc := st.hc
  exact ⟨M0, c, ⟨hc.fh, s.trans hc.mh, hc.gh, hc.fm.sub (Same.refl _) s, hc.fg, hc.mg.sub s (Same.refl _), hc.ft⟩, ⟨vs, r0, q⟩, st.len⟩
/-- all slots frozen -/
def frzT (t : T) : T := match t.fz with
  | some d => .z d
  | none => .gone
theorem ROs.frzAll {g : Gx} {F F' : Hp} (s : Same F F') : ∀ {M vs ts}, ROs g F M vs ts → Same M F' → ROs g F' em vs (ts.map frzT)
  | _, _, _, .nil, _ => .nil
  | _, _, t :: ts, .cons h1 h2 h3 h4 h5, m => by
    refine .cons (M1 := em) (M2 := em) ?_ (ROs.frzAll s h2 (h4.trans m)) Same.empty Same.empty Dj.em_l
    show RO g F' em _ (frzT t)
    unfold frzT
    cases q : t.fz with
    | none => exact .gone
    | some d => exact .z (h1.fz q s (h3.trans m))
section
variable {g : Gx} {F Mm G H : Hp} {σ : L2.St} {ts : List T}
theorem Sta.frzAll (st : Sta g F Mm G H σ ts) : Same F (jn F Mm) ∧ Sta g (jn F Mm) em G H σ (ts.map frzT) := by
  have hc := st.hc
  obtain ⟨vs, r, q⟩ := st.vs
  refine ⟨jn_l, ⟨jn_sub hc.fh hc.mh, Same.empty, hc.gh, Dj.em_r, dj_jn hc.fg hc.mg, Dj.em_l, hc.ft.mono jn_l⟩, ⟨vs, r.frzAll jn_l (jn_r hc.fm), fun i v t h1 h2 => ?_⟩, by rw [List.length_map]; exact st.len⟩
  rw [List.getElem?_map] at h2
  cases e : ts[i]? with
  | none => rw [e] at h2; cases h2
  | some u =>
    rw [e] at h2
    rcases q i v u h1 e with z | z
    · subst z; cases h2; exact .inl rfl
    · exact .inr z
theorem Ft.mn {F F' H' : Hp} (ft : Ft F H) (fm : Dj F Mm) (mh : Same Mm H) (mh' : Same Mm H') (ft' : Ft F' H') : Ft (Ar.mn F' Mm) H' := fun a xs e => by
  have e1 := ft' a xs e
  cases q : Mm a with
  | none => unfold Ar.mn; simp only [q]; exact e1
  | some o =>
    have e2 := mh' _ _ q
    rw [e] at e2
    cases e2
    exact absurd (fm.ne (ft _ _ (mh _ _ q))) (by rw [q]; exact fun z => nomatch z)
/-- back from lending -/
theorem Sta.back {F' M' H' : Hp} {ts' : List T} (st : Sta g F Mm G H σ ts) (s : Same (jn F Mm) F') (st' : Sta g F' M' G H' σ ts') : Same F (mn F' Mm) ∧ Sta g (mn F' Mm) Mm G H' σ ts := by
  have hc := st.hc
  have hc' := st'.hc
  have s0 := mn_of (jn_l.trans s) hc.fm
  have mh' : Same Mm H' := ((jn_r hc.fm).trans s).trans hc'.fh
  obtain ⟨vs, r, q⟩ := st.vs
  exact ⟨s0, ⟨mn_sub.trans hc'.fh, mh', hc'.gh, mn_dj, hc'.fg.sub mn_sub (Same.refl _), hc.mg, hc.ft.mn hc.fm hc.mh mh' hc'.ft⟩, ⟨vs, r.mono s0, q⟩, st.len⟩
/-- back from lending, with something in the hand that holds nothing that was lent -/
theorem Sta.backO {F' M' Mv H' : Hp} {ts' : List T} (st : Sta g F Mm G H σ ts) (s : Same (jn F Mm) F') (st' : Sta g F' M' (jn Mv G) H' σ ts') (d : Dj Mv G) : Same F (mn F' Mm) ∧ Sta g (mn F' Mm) Mm (jn Mv G) H' σ ts := by
  have hc := st.hc
  have hc' := st'.hc
  have dF : Dj F' Mv := hc'.fg.sub (Same.refl _) jn_l
  have s0 := mn_of (jn_l.trans s) hc.fm
  obtain ⟨vs, r, q⟩ := st.vs
  exact ⟨s0, ⟨mn_sub.trans hc'.fh, ((jn_r hc.fm).trans s).trans hc'.fh, hc'.gh, mn_dj, hc'.fg.sub mn_sub (Same.refl _), dj_jn_r (dF.sub ((jn_r hc.fm).trans s) (Same.refl _)) hc.mg, hc.ft.mn hc.fm hc.mh (((jn_r hc.fm).trans s).trans hc'.fh) hc'.ft⟩, ⟨vs, r.mono s0, q⟩, st.len⟩
end
def lendM (m : M T) : M T := fun ts => match m (ts.map frzT) with
  | .ok t _ => if t.fresh = true then .ok t ts else .bad
  | .ex c _ => .ex c ts
  | .bad => .bad
def lendB (m : M Bool) : M Bool := fun ts => match m (ts.map frzT) with
  | .ok t _ => .ok t ts
  | .ex c _ => .ex c ts
  | .bad => .bad
section
variable {X : Cx} {W : WX} {e : Expr}
theorem pe_lend {m : M T} (h : PE X e (tD (gx X) W m)) : PE X e (tD (gx X) W (lendM m)) :=
  pe_imp h fun σ H Q ⟨F, Mm, G, ts, st, k⟩ => by
    obtain ⟨M0, c0, st⟩ := st.shrink
    obtain ⟨s0, st0⟩ := st.frzAll
    refine ⟨jn F M0, em, G, ts.map frzT, st0, ?_⟩
    unfold lendM at k
    cases q : m (ts.map frzT) with
    | bad => rw [q] at k; exact k
    | ex c ts' =>
      rw [q] at k
      intro F' M' H' C s1 st1 hC
      exact k _ M0 H' C (st.back s1 st1).1 (st.back s1 st1).2 hC
    | ok t ts' =>
      rw [q] at k
      intro F' Mv M' H' v s1 r st1 d
      dsimp only at k
      by_cases hf : t.fresh = true
      · rw [if_pos hf] at k
        obtain ⟨s2, st2⟩ := st.backO s1 st1 d
        exact k (mn F' M0) Mv M0 H' v s2 (r.fresh c0 ((jn_r st.hc.fm).trans s1) hf) st2 d
      · rw [if_neg hf] at k; exact k.elim
theorem pt_lend {m : M Bool} (h : PT X e (tB (gx X) W m)) : PT X e (tB (gx X) W (lendB m)) :=
  pt_imp h fun σ H Q ⟨F, Mm, G, ts, st, k⟩ => by
    obtain ⟨s0, st0⟩ := st.frzAll
    refine ⟨jn F Mm, em, G, ts.map frzT, st0, ?_⟩
    unfold lendB at k
    cases q : m (ts.map frzT) with
    | bad => rw [q] at k; exact k
    | ex c ts' =>
      rw [q] at k
      intro F' M' H' C s1 st1 hC
      exact k _ Mm H' C (st.back s1 st1).1 (st.back s1 st1).2 hC
    | ok t ts' =>
      rw [q] at k
      intro F' M' H' s1 st1
      exact k _ Mm H' (st.back s1 st1).1 (st.back s1 st1).2
end
end Ar
/-! ArN: short forms of the rules, for printed derivations; for over an owned list; the text's defs. -/
namespace Ar
open PySem PySem.Spec PyProof.Rows L2

/-! ### for over an owned list, whose items are handed on -/
def loopOwn (j : Nat) (body : S) : List T → S
  | [] => RS.nx
  | u :: us => fun ts => if j < ts.length then (match body (ts.set j u) with
      | .nx ts2 => loopOwn j body us ts2
      | .ct ts2 => loopOwn j body us ts2
      | .bk ts2 => .nx ts2
      | .rt t ts2 => .rt t ts2
      | .ex c ts2 => .ex c ts2
      | .bad => .bad) else .bad
def forOwn (i j : Nat) (body : S) : S := fun ts => match ts[i]? with
  | some (.l us) => loopOwn j body us (ts.set i .gone)
  | _ => .bad
theorem jn_assoc {A B C : Hp} : jn (jn A B) C = jn A (jn B C) := by
  funext a
  unfold jn
  cases A a <;> rfl
theorem Sta.lessG {g : Gx} {F M G G' H : Hp} {σ : L2.St} {ts : List T} (h : Sta g F M G H σ ts) (s : Same G' G) : Sta g F M G' H σ ts :=
  ⟨⟨h.hc.fh, h.hc.mh, s.trans h.hc.gh, h.hc.fm, h.hc.fg.sub (Same.refl _) s, h.hc.mg.sub (Same.refl _) s, h.hc.ft⟩, h.vs, h.len⟩
section
variable {g : Gx} {W : WX} {bs : List Nat} {F G Mv : Hp} {σ : L2.St} {D : Ends}
theorem KS.frame {r : RS} (h : KS g W bs F G σ D r) (d : Dj Mv G) : KS g W bs F (jn Mv G) σ D r := by
  cases r with
  | bad => exact h
  | nx ts => exact fun F' M' H' σ' s st p => h F' M' H' σ' s (st.drop d) p
  | bk ts => exact fun F' M' H' σ' s st p => h F' M' H' σ' s (st.drop d) p
  | ct ts => exact fun F' M' H' σ' s st p => h F' M' H' σ' s (st.drop d) p
  | rt t ts =>
    intro F' Mr M' H' σ' v s r st dj p
    have dr : Dj Mr Mv := dj.sub (Same.refl _) jn_l
    have e : jn Mr (jn Mv G) = jn Mv (jn Mr G) := by rw [jn_swap dr.symm, jn_assoc]
    rw [e] at st
    exact h F' Mr M' H' σ' v s r (st.lessG (jn_r (dj_jn_r dr.symm d))) (dj.sub (Same.refl _) (jn_r d)) p
  | ex c ts => exact fun F' M' H' σ' C s st p => h F' M' H' σ' C s (st.drop d) p
end
section
variable {X : Cx} {W : WX} {bs : List Nat} {x y : Str} {p p2 pos : Pos} {body : List Stmt} {i j : Nat} {n : S}
end
end Ar
/-! ArO: the rules in short, for printed derivations; the defs of a text. -/
namespace Ar
open PySem PySem.Spec PyProof.Rows L2
def binA (f : D → D → Option T) (ma : M D) (mc : List T → Option D) : M T := ma >>= fun x => see mc >>= fun y => opt (f x y)
def binZ (f : D → D → Option T) (ma mb : M D) : M T := ma >>= fun x => mb >>= fun y => opt (f x y)
def un1 (f : D → Option T) (ma : M D) : M T := ma >>= fun y => opt (f y)
def zT (m : M T) : M D := m >>= frz
def kA (d : D) : List T → Option D := fun _ => some d
def kT (d : D) : M T := M.ret (.z d)
def tsB (m : M T) : M Bool := m >>= asB
def notB (m : M Bool) : M Bool := m >>= fun b => M.ret !b
def isN (ma : M D) : M T := ma >>= fun d => M.ret (.z (.bl (isNonD d)))
def isNN (ma : M D) : M T := ma >>= fun d => M.ret (.z (.bl !isNonD d))
def isNB (ma : M D) : M Bool := ma >>= fun d => M.ret (isNonD d)
def isNNB (ma : M D) : M Bool := ma >>= fun d => M.ret !isNonD d
def itM (f : D → Option (List D)) (m : M D) : M (List D) := m >>= fun d => opt (f d)
def it2M (f : D → D → Option (List D)) (m n : M D) : M (List D) := m >>= fun d => n >>= fun e => opt (f d e)
theorem hu1 {k : Nat} {A : Around} (h : Room k A) : A.units + 1 < cLine := by have := h.un; omega
theorem hu64 {k : Nat} {A : Around} (h : Room k A) : A.units + 64 < cLine := by have := h.un; omega
theorem hu65 {k : Nat} {A : Around} (h : Room k A) : A.units + 65 < cLine := by have := h.un; omega
section
variable {X : Cx} {W : WX} {a b e : Expr} {es : List Expr} {pos p : Pos} {op : Operator} {cop : CmpOp} {r : R2} {f : D → D → Option T} {f1 : D → Option T} {ma mb : M D} {mc : List T → Option D} {m : M T}
theorem e_kA {d : D} {v : V} (h : PE X e (tC v)) (r : ∀ F, Rp (gx X) F v d) : PE X e (tAt (gx X) (kA d)) := pe_seeC h r
theorem e_kT {d : D} {v : V} (h : PE X e (tC v)) (r : ∀ F, Rp (gx X) F v d) : PE X e (tD (gx X) W (kT d)) := pe_const h r
theorem e_zT (h : PE X e (tD (gx X) W m)) : PE X e (tZ (gx X) W (zT m)) := pe_frz h
theorem e_binA (ho : OpR X (binaryOp op) r) (hs : Op2 (gx X) r f) (ha : PE X a (tV (gx X) W ma)) (hb : PE X b (tAt (gx X) mc)) : PE X (.BinOp a op b pos) (tD (gx X) W (binA f ma mc)) := pe_binA ho hs ha hb
theorem e_binZ (ho : OpR X (binaryOp op) r) (hs : Op2 (gx X) r f) (ha : PE X a (tZ (gx X) W ma)) (hb : PE X b (tV (gx X) W mb)) : PE X (.BinOp a op b pos) (tD (gx X) W (binZ f ma mb)) := pe_binZ ho hs ha hb
theorem e_cmpA (ho : OpR X (compareOp cop) r) (hs : Op2 (gx X) r f) (ha : PE X a (tV (gx X) W ma)) (hb : PE X b (tAt (gx X) mc)) (hm : behindInMarks cop b = false) : PE X (.Compare a [cop] [b] pos) (tD (gx X) W (binA f ma mc)) := pe_cmpA ho hs ha hb hm
theorem e_cmpZ (ho : OpR X (compareOp cop) r) (hs : Op2 (gx X) r f) (ha : PE X a (tZ (gx X) W ma)) (hb : PE X b (tV (gx X) W mb)) (hm : behindInMarks cop b = false) : PE X (.Compare a [cop] [b] pos) (tD (gx X) W (binZ f ma mb)) := pe_cmpZ ho hs ha hb hm
theorem t_cmpA (ho : OpR X (compareOp cop) r) (hs : Op2 (gx X) r f) (ha : PE X a (tV (gx X) W ma)) (hb : PE X b (tAt (gx X) mc)) (hm : behindInMarks cop b = false) : PT X (.Compare a [cop] [b] pos) (tB (gx X) W (tsB (binA f ma mc))) := pt_cmpA' ho hs ha hb hm
theorem t_cmpZ (ho : OpR X (compareOp cop) r) (hs : Op2 (gx X) r f) (ha : PE X a (tZ (gx X) W ma)) (hb : PE X b (tV (gx X) W mb)) (hm : behindInMarks cop b = false) : PT X (.Compare a [cop] [b] pos) (tB (gx X) W (tsB (binZ f ma mb))) := pt_cmpZ' ho hs ha hb hm
theorem e_ixA (hu : X.A.units + 1 < cLine) (ha : PE X a (tV (gx X) W ma)) (hb : PE X b (tAt (gx X) mc)) (hm : PlainIx b) : PE X (.Subscript a b pos) (tD (gx X) W (binA oIx ma mc)) := pe_ixA (ix_all hu) opIx ha hb hm
theorem e_ixZ (hu : X.A.units + 1 < cLine) (ha : PE X a (tZ (gx X) W ma)) (hb : PE X b (tV (gx X) W mb)) (hm : PlainIx b) : PE X (.Subscript a b pos) (tD (gx X) W (binZ oIx ma mb)) := pe_ixZ (ix_all hu) opIx ha hb hm
theorem e_un {uop : UnaryOp} {r1 : V → Hp → VK → Prop} (ho : UnR X (unaryOp uop) r1) (hs : Op1 (gx X) r1 f1) (ha : PE X a (tV (gx X) W ma)) : PE X (.UnaryOp uop a pos) (tD (gx X) W (un1 f1 ma)) := pe_un1 ho hs ha
theorem t_plain (h : PE X e (tD (gx X) W m)) (hp : plainT e = true) : PT X e (tB (gx X) W (tsB m)) := pt_plain h hp
theorem t_not {m : M Bool} (h : PT X a (tB (gx X) W m)) : PT X (.UnaryOp .Not a pos) (tB (gx X) W (notB m)) := pt_notB h
theorem e_isN {j : Nat} {p' : Pos} (ha : PE X a (tV (gx X) W ma)) : PE X (.Compare a [.Is] [.Constant .none j p'] pos) (tD (gx X) W (isN ma)) := pe_isN' ha
theorem t_isN {j : Nat} {p' : Pos} (ha : PE X a (tV (gx X) W ma)) : PT X (.Compare a [.Is] [.Constant .none j p'] pos) (tB (gx X) W (isNB ma)) := pt_isN' ha
theorem w_and1 {m : M Bool} (h : PT X a (tB (gx X) W m)) : PW X (.BoolOp .And [a] pos) (tB (gx X) W m) := pw_and1 h
theorem w_or1 {m : M Bool} (h : PT X a (tB (gx X) W m)) : PW X (.BoolOp .Or [a] pos) (tB (gx X) W m) := pw_or1 h
/-! built-ins -/
variable {x : Str}
theorem c_len (hm : X.mg "len" = none) (hg : Gl X "len") (ha : PE X a (tV (gx X) W ma)) (n : nst a = true) : PE X (.Call (.Name "len" p) [a] [] pos) (tD (gx X) W (un1 oLen ma)) := pe_call1 call_lenAll opLen hg hm (by decide +kernel) (by decide) (by decide) ha n
theorem c_sorted (hc : X.calm = true) (hm : X.mg "sorted" = none) (hg : Gl X "sorted") (ha : PE X a (tV (gx X) W ma)) (n : nst a = true) : PE X (.Call (.Name "sorted" p) [a] [] pos) (tD (gx X) W (un1 oSorted ma)) := pe_call1 (cr_sortAll hc) opSorted hg hm (by decide +kernel) (by decide) (by decide) ha n
theorem c_all (hc : X.calm = true) (hm : X.mg "all" = none) (hg : Gl X "all") (ha : PE X a (tV (gx X) W ma)) (n : nst a = true) : PE X (.Call (.Name "all" p) [a] [] pos) (tD (gx X) W (un1 oAll ma)) := pe_call1 (cr_all hc) opAll hg hm (by decide +kernel) (by decide) (by decide) ha n
theorem c_any (hc : X.calm = true) (hm : X.mg "any" = none) (hg : Gl X "any") (ha : PE X a (tV (gx X) W ma)) (n : nst a = true) : PE X (.Call (.Name "any" p) [a] [] pos) (tD (gx X) W (un1 oAny ma)) := pe_call1 (cr_any hc) opAny hg hm (by decide +kernel) (by decide) (by decide) ha n
theorem c_abs (hm : X.mg "abs" = none) (hg : Gl X "abs") (ha : PE X a (tV (gx X) W ma)) (n : nst a = true) : PE X (.Call (.Name "abs" p) [a] [] pos) (tD (gx X) W (un1 oAbs ma)) := pe_call1 call_abs opAbs hg hm (by decide +kernel) (by decide) (by decide) ha n
theorem c_set (hc : X.calm = true) (hm : X.mg "set" = none) (hg : Gl X "set") (ha : PE X a (tV (gx X) W ma)) (n : nst a = true) : PE X (.Call (.Name "set" p) [a] [] pos) (tD (gx X) W (un1 oSet ma)) := pe_callT1 ((cr_setI hc).or (cr_setIT hc)) opSet hg hm boot_set (by decide) (by decide) ha n
theorem c_list (hc : X.calm = true) (hm : X.mg "list" = none) (hg : Gl X "list") (ha : PE X a (tV (gx X) W ma)) (n : nst a = true) : PE X (.Call (.Name "list" p) [a] [] pos) (tD (gx X) W (un1 oList ma)) := pe_callT1 (call_list_of.or (call_listD hc)) (opList (X := X)) hg hm boot_list (by decide) (by decide) ha n
theorem c_tuple (hm : X.mg "tuple" = none) (hg : Gl X "tuple") (ha : PE X a (tV (gx X) W ma)) (n : nst a = true) : PE X (.Call (.Name "tuple" p) [a] [] pos) (tD (gx X) W (un1 oTuple ma)) := pe_callT1 call_tuple_of opTuple hg hm boot_tuple (by decide) (by decide) ha n
theorem c_int (hm : X.mg "int" = none) (hg : Gl X "int") (ha : PE X a (tV (gx X) W ma)) (n : nst a = true) : PE X (.Call (.Name "int" p) [a] [] pos) (tD (gx X) W (un1 oInt ma)) := pe_callT1 (call_int1.or call_int_str) opInt hg hm boot_int (by decide) (by decide) ha n
theorem c_str (hm : X.mg "str" = none) (hg : Gl X "str") (ha : PE X a (tV (gx X) W ma)) (n : nst a = true) : PE X (.Call (.Name "str" p) [a] [] pos) (tD (gx X) W (un1 oStr ma)) := pe_callT1 call_str_int opStr hg hm boot_str (by decide) (by decide) ha n
theorem c_minZ (hc : X.calm = true) (hm : X.mg "min" = none) (hg : Gl X "min") (ha : PE X a (tZ (gx X) W ma)) (hb : PE X b (tV (gx X) W mb)) (n : nst a = true) (n2 : nst b = true) : PE X (.Call (.Name "min" p) [a, b] [] pos) (tD (gx X) W (binZ oMin2 ma mb)) := pe_call2Z (call_min2 hc) opMin2 hg hm (by decide +kernel) (by decide) (by decide) ha hb n n2
def isiM (t : String) (m : M D) : M T := m >>= fun d => opt (isi t d)
def isi2M (t u : String) (m : M D) : M T := m >>= fun d => opt (isi2 t u d)
theorem c_isi {ty : String} {y : Str} {p2 : Pos} (hm : X.mg "isinstance" = none) (hg : Gl X "isinstance") (hm2 : X.mg y = none) (hg2 : Gl X y) (hb : bootBuiltins y = some (.type ty)) (hn : y ≠ "__name__") (hdb : (y == ("__debug__" : Str)) = false)
    (ha : PE X e (tV (gx X) W ma)) (n : nst e = true) : PE X (.Call (.Name "isinstance" p) [e, .Name y p2] [] pos) (tD (gx X) W (isiM ty ma)) := pe_isiM hg hm hg2 hm2 hb hn hdb ha n
theorem c_isi2 {t1 t2 : String} {y1 y2 : Str} {p1 p2 p3 : Pos} {kk : Nat} (hm : X.mg "isinstance" = none) (hg : Gl X "isinstance") (hm1 : X.mg y1 = none) (hg1 : Gl X y1) (hb1 : bootBuiltins y1 = some (.type t1)) (hn1 : y1 ≠ "__name__") (hdb1 : (y1 == ("__debug__" : Str)) = false)
    (hm2 : X.mg y2 = none) (hg2 : Gl X y2) (hb2 : bootBuiltins y2 = some (.type t2)) (hn2 : y2 ≠ "__name__") (hdb2 : (y2 == ("__debug__" : Str)) = false)
    (ha : PE X e (tV (gx X) W ma)) (n : nst e = true) : PE X (.Call (.Name "isinstance" p) [e, .Tuple [.Name y1 p1, .Name y2 p2] kk p3] [] pos) (tD (gx X) W (isi2M t1 t2 ma)) := pe_isi2M hg hm hg1 hm1 hb1 hn1 hdb1 hg2 hm2 hb2 hn2 hdb2 ha n
/-! walks -/
variable {tg l e2 : Expr} {tpos : Pos} {elts : List Expr} {kk : Nat}
theorem i_seq (h : PE X l (tZ (gx X) W ma)) : PI X tg l (tI (gx X) W (itM itemsOf ma)) := pi_seqM h
theorem i_rng1 (hm : X.mg "range" = none) (hg : Gl X "range") (h : PE X e (tV (gx X) W ma)) (n : nst e = true) : PI X tg (.Call (.Name "range" p) [e] [] pos) (tI (gx X) W (itM rng1 ma)) := pi_rng1 hg hm h n
theorem i_zip (hm : X.mg "zip" = none) (hg : Gl X "zip") (h : PE X e (tZ (gx X) W ma)) (h2 : PE X e2 (tZ (gx X) W mb)) (n : nst e = true) (n2 : nst e2 = true) :
    PI X (.Tuple elts kk tpos) (.Call (.Name "zip" p) [e, e2] [] pos) (tI (gx X) W (it2M zip2 ma mb)) := pi_zipM hg hm h h2 n n2
end
/-! ### the defs of a text -/
/-- a plain def of the top -/
def DefIs (K : PySem.W.Frag) (mg : Str → Option Value) (x : Str) (st : Stmt) (ps : List Str) : Prop := ∃ fa fd, Fun K x x st fa fd ∧ Binds K fd ps [] ∧ mg x = some (.ref fa)
/-- .. and the promise that it keeps -/
def Callee (P : Program) (w : World) (K : PySem.W.Frag) (mg : Str → Option Value) (base : Heap) (k : Nat) (x : Str) (ps : List Str) (f : List T → R T) : Prop :=
  ∃ fa fd, FnOk P w K mg base (L2.CX P w) k fa fd ps (spF ⟨K, mg, P, w⟩ ps.length f) ∧ mg x = some (.ref fa) ∧ PySem.W.keepIn K (.ref fa) = true ∧ Binds K fd ps []
section
variable {P : Program} {w : World} {K : PySem.W.Frag} {mg : Str → Option Value} {base : Heap}
theorem callee_of {x : Str} {st : Stmt} {N ps : List Str} {k ex : Nat} {m : S} {kp : List Bool} (hex : N.length - ps.length = ex) (F : DefIs K mg x st ps) (Sc : FnScope N ps (defScope st)) (hkp : kp.length = ps.length)
    (hbody : ∀ (f : Addr) (cdv : Value) (A : Around) (outer : List Env) (s : Shared) (H : Hp) (E : XK), Room k (A.deeper (envOfC x (defScope st) s.heap.objs.size f cdv)) →
      PSs (cxOf (L2.CX P w) P w K mg base N x (defScope st) f cdv A outer s H E) (defBody st) (tS ⟨K, mg, P, w⟩ (fun c d _ H => E c d H) (keptOf 0 kp) m)) :
    Callee P w K mg base (k + 1) x ps (bodyR ex kp m) := by
  subst hex
  obtain ⟨fa, fd, F1, b, e⟩ := F
  exact ⟨fa, fd, fn_okM F1 Sc hkp (hbody fa), e, F1.kp, b⟩
theorem takes_cx {N : List Str} {x : Str} {sc : Scope} {f : Addr} {cdv : Value} {A : Around} {outer : List Env} {s : Shared} {H : Hp} {E : XK} :
    Takes (cxOf (L2.CX P w) P w K mg base N x sc f cdv A outer s H E) (fun c d _ H => E c d H) := takes_of rfl rfl rfl rfl
theorem passes_cx {N : List Str} {x : Str} {sc : Scope} {f : Addr} {cdv : Value} {A : Around} {outer : List Env} {s : Shared} {H : Hp} {E : XK} :
    PassesOwn (model (cxOf (L2.CX P w) P w K mg base N x sc f cdv A outer s H E).prog (cxOf (L2.CX P w) P w K mg base N x sc f cdv A outer s H E).w) (cxOf (L2.CX P w) P w K mg base N x sc f cdv A outer s H E).A (cxOf (L2.CX P w) P w K mg base N x sc f cdv A outer s H E).env (cxOf (L2.CX P w) P w K mg base N x sc f cdv A outer s H E).xe := passes_of rfl
end
section
variable {X : Cx} {W : WX} {e : Expr} {es : List Expr} {p pos : Pos} {x : Str}
theorem c_own {k : Nat} {ps : List Str} {f : List T → R T} {tks : List (Option Nat)} {ms : M (List T)} (C : Callee X.prog X.w X.K X.mg X.base k x ps f) (hr : Room k X.A) (hg : Gl X x) (tk : Takes X W) (ha : PA X (e :: es) (tAr (gx X) W tks ms)) (hl : tks.length = ps.length)
    (hd : (x == ("__debug__" : Str)) = false) (n : (e :: es).all nst = true) : PE X (.Call (.Name x p) (e :: es) [] pos) (tD (gx X) W (callM f tks ms)) := by
  obtain ⟨fa, fd, F, e1, kp, b⟩ := C
  exact pe_callM F hr hg e1 kp b tk ha hl hd n
end
end Ar
/-! ArP: recursion's ground, the law's end, a lent comprehension. -/
namespace Ar
open PySem PySem.Spec PyProof.Rows L2
section
variable {P : Program} {w : World} {K : PySem.W.Frag} {mg : Str → Option Value} {base : Heap}
theorem callee_zero {x : Str} {st : Stmt} {ps : List Str} {k : Nat} (F : DefIs K mg x st ps) : Callee P w K mg base k x ps (fun _ => .bad) := by
  obtain ⟨fa, fd, F1, b, e⟩ := F
  exact ⟨fa, fd, ⟨fun vs H Q E h => h.1, fun A outer s H args us vs Q E hr env hb hv h => by
    obtain ⟨_, _, _, _, _, _, _, z⟩ := h
    exact z.elim⟩, e, F1.kp, b⟩
theorem Callee.mono {x : Str} {ps : List Str} {j k : Nat} {f : List T → R T} (C : Callee P w K mg base j x ps f) (h : j ≤ k) : Callee P w K mg base k x ps f := by
  obtain ⟨fa, fd, F, r⟩ := C
  exact ⟨fa, fd, F.mono h, r⟩
def spEnd (K : PySem.W.Frag) : Sp := fun vs H Q _ => ∃ (a : Addr) (ns : List Int), vs = [.ref a] ∧ SqL K H a (ns.map V.int) ∧ ns.length ≤ 63 ∧ ∀ H', Q (.bl true) H'
theorem law_fn {fa : Addr} {x : Str} {k : Nat} {f : List T → R T} {fd : FuncData} (F : FnOk P w K mg base (L2.CX P w) k fa fd [x] (spF ⟨K, mg, P, w⟩ 1 f))
    (hf : ∀ ns : List Int, ns.length ≤ 63 → ∃ fins, f [.z (.scr ns)] = .ok (.z (.bl true)) fins) : FnOk P w K mg base (L2.CX P w) k fa fd [x] (spEnd K) :=
  F.imp fun vs H Q E h => by
    obtain ⟨a, ns, rfl, hS, hlen, q⟩ := h
    obtain ⟨fins, e⟩ := hf ns hlen
    refine ⟨rfl, H, em, em, [.z (.scr ns)], ⟨Same.refl _, Same.empty, Same.empty, Dj.em_r, Dj.em_r, Dj.em_l, fun _ _ e => e⟩, .cons (M1 := em) (M2 := em) (.z (.scr hS)) .nil (Same.refl _) (Same.refl _) Dj.em_l, ?_⟩
    rw [e]
    intro F' Mr M' H' v s r _ _ _
    cases r with
    | z r => cases r; exact q H'
end
section
variable {X : Cx} {W : WX} {bs : List Nat}
theorem lend_imp {m : M T} {σ : L2.St} {H : Hp} {Q : VK} (h : tD (gx X) W (lendM m) σ H Q) : tD (gx X) W m σ H Q := by
  obtain ⟨F, Mm, G, ts, st, k⟩ := h
  obtain ⟨M0, c0, st⟩ := st.shrink
  obtain ⟨s0, st0⟩ := st.frzAll
  refine ⟨jn F M0, em, G, ts.map frzT, st0, ?_⟩
  unfold lendM at k
  cases q : m (ts.map frzT) with
  | bad => rw [q] at k; exact k
  | ex c ts' =>
    rw [q] at k
    intro F' M' H' C s1 st1 hC
    exact k _ M0 H' C (st.back s1 st1).1 (st.back s1 st1).2 hC
  | ok t ts' =>
    rw [q] at k
    intro F' Mv M' H' v s1 r st1 d
    dsimp only at k
    by_cases hf : t.fresh = true
    · rw [if_pos hf] at k
      obtain ⟨s2, st2⟩ := st.backO s1 st1 d
      exact k (mn F' M0) Mv M0 H' v s2 (r.fresh c0 ((jn_r st.hc.fm).trans s1) hf) st2 d
    · rw [if_neg hf] at k; exact k.elim
theorem ps_setLendCompM {i : Nat} {y : Str} {py spos : Pos} {elt tg iter : Expr} {ifs : List Expr} {scope : Scope} {own : List (Str × Nat)} {pos : Pos} {mi : M (List D)} {put : D → List T → Option (List T)} {mc : M Bool} {me : M D}
    (hc : X.calm = true) (hN : X.N.Nodup) (hy : X.N[i]? = some y) (hyl : X.env.scope.names.lookup y = some .local)
    (hsw : swapsWith (.ListComp elt [⟨tg, iter, ifs, 0⟩] scope pos) (some (.Name y py)) spos.line X.env = pure true) (hi : PI X tg iter (tI (gx X) W mi)) (ok : BlkOk X.N X.env.scope scope own)
    (hg : ∀ (s : Shared) (H : Hp) (C : Addr) (cl : List (Str × Addr)) (fp : List Addr), PG (X.blk s H scope (compEnvC scope cl C X.env) fp) tg (gD (gx X) (others X.N.length (own.map (·.2))) put))
    (ht : ∀ (s : Shared) (H : Hp) (C : Addr) (cl : List (Str × Addr)) (fp : List Addr), PTs (X.blk s H scope (compEnvC scope cl C X.env) fp) ifs (tB (gx X) W0 mc))
    (he : ∀ (s : Shared) (H : Hp) (C : Addr) (cl : List (Str × Addr)) (fp : List Addr), PE (X.blk s H scope (compEnvC scope cl C X.env) fp) elt (tZ (gx X) W0 me)) (hs : ∀ x, foldedSetIterable iter X.env x = pure x)
    (hput : ∀ d ts ts', put d ts = some ts' → ts'.length = ts.length) (hb : i ∉ bs) : PS X (.Assign [.Name y py] (.ListComp elt [⟨tg, iter, ifs, 0⟩] scope pos) spos) (tS (gx X) W bs (setS i (lendM (compM mi (own.map (·.2)) put mc me)))) :=
  ⟨fun pins s σ H D I ⟨F, Mm, G, ts, sa, k⟩ => (ps_setLc hc hN hy hyl hsw hi ok hg ht he hs).run pins s σ H D I (comp_core (W := W) hput I.len (Q := fun x H1 => gName i x σ H1 D.nx) (lend_imp (tD_S sa k fun t ts1 _ k1 F1 Mv M1 H1 v s1 r st1 dj => by
    by_cases hl : i < ts1.length
    · rw [if_pos hl] at k1
      obtain ⟨M', st2⟩ := st1.assign r dj hl
      exact k1 F1 M' H1 _ s1 st2 (Pin.set hb)
    · rw [if_neg hl] at k1; exact k1.elim)))⟩
end
end Ar
/-! ArQ: how a mirror is run by simp; freezing an argument; turns of loops. -/
namespace Ar
open PySem PySem.Spec PyProof.Rows L2
def fzM (m : M T) : M T := m >>= fun t => frz t >>= fun d => M.ret (.z d)
theorem e_fzM {X : Cx} {W : WX} {e : Expr} {m : M T} (h : PE X e (tD (gx X) W m)) : PE X e (tD (gx X) W (fzM m)) :=
  pe_imp (pe_frz h) fun σ H Q ⟨F, Mm, G, ts, st, k⟩ => by
    refine ⟨F, Mm, G, ts, st, ?_⟩
    have e0 : fzM m ts = ((m >>= frz) >>= fun d => M.ret (.z d)) ts := by
      show M.andThen m (fun t => M.andThen (frz t) fun d => M.ret (T.z d)) ts = M.andThen (M.andThen m frz) (fun d => M.ret (T.z d)) ts
      unfold M.andThen
      cases m ts <;> rfl
    rw [e0] at k
    cases q : (m >>= frz) ts with
    | bad => rw [bind_bad q] at k; exact k
    | ex c ts' => rw [bind_ex q] at k; exact k
    | ok d ts' =>
      rw [bind_ok q] at k
      intro F' M' H' v s r st1
      exact k F' em M' H' v s (.z r) st1 Dj.em_l
theorem fn_okE {P : Program} {w : World} {K : PySem.W.Frag} {mg : Str → Option Value} {base : Heap} {x qual : Str} {st : Stmt} {f : Addr} {fd : FuncData} {N ps : List Str} {k ex : Nat} {m : S} {kp : List Bool} (hex : N.length - ps.length = ex) (F : Fun K x qual st f fd) (Sc : FnScope N ps (defScope st)) (hkp : kp.length = ps.length)
    (hbody : ∀ (cdv : Value) (A : Around) (outer : List Env) (s : Shared) (H : Hp) (E : XK), Room k (A.deeper (envOfC qual (defScope st) s.heap.objs.size f cdv)) →
      PSs (cxOf (L2.CX P w) P w K mg base N qual (defScope st) f cdv A outer s H E) (defBody st) (tS ⟨K, mg, P, w⟩ (fun c d _ H => E c d H) (keptOf 0 kp) m)) :
    FnOk P w K mg base (L2.CX P w) (k + 1) f fd ps (spF ⟨K, mg, P, w⟩ ps.length (bodyR ex kp m)) := by
  subst hex
  exact fn_okM F Sc hkp hbody
/-! ### results, run on -/
section
variable {α β : Type}
def R.and (r : R α) (f : α → List T → R β) : R β := match r with
  | .ok a ts => f a ts
  | .ex c ts => .ex c ts
  | .bad => .bad
def R.andS (r : R α) (f : α → List T → RS) : RS := match r with
  | .ok a ts => f a ts
  | .ex c ts => .ex c ts
  | .bad => .bad
def RS.thn (r : RS) (n : S) : RS := match r with
  | .nx ts => n ts
  | r => r
def RS.fin (r : RS) (n : Nat) (kp : List Bool) : R T := match r with
  | .nx ts => if ts.length = n then .ok (.z .non) (pickP kp ts) else .bad
  | .rt t ts => if ts.length = n then .ok t (pickP kp ts) else .bad
  | .ex c ts => if ts.length = n then .ex c (pickP kp ts) else .bad
  | _ => .bad
def R.lend (r : R T) (ts : List T) : R T := match r with
  | .ok t _ => if t.fresh = true then .ok t ts else .bad
  | .ex c _ => .ex c ts
  | .bad => .bad
def R.lendB (r : R Bool) (ts : List T) : R Bool := match r with
  | .ok t _ => .ok t ts
  | .ex c _ => .ex c ts
  | .bad => .bad
def R.give (r : R T) (tks : List (Option Nat)) (tl ts1 : List T) : R T := match r with
  | .ok t fins => .ok t (giveB tks tl fins ts1)
  | .ex c fins => .ex c (giveB tks tl fins ts1)
  | .bad => .bad
def R.wipe (r : R α) (vs : List Nat) : R α := match r with
  | .ok a ts => .ok a (wipeT ts vs)
  | .ex c ts => .ex c ts
  | .bad => .bad
@[simp] theorem and_ok (a : α) (ts) (f : α → List T → R β) : R.and (.ok a ts) f = f a ts := rfl
@[simp] theorem and_ex (c) (ts) (f : α → List T → R β) : R.and (.ex c ts) f = .ex c ts := rfl
@[simp] theorem and_bad (f : α → List T → R β) : R.and .bad f = .bad := rfl
@[simp] theorem andS_ok (a : α) (ts) (f : α → List T → RS) : R.andS (.ok a ts) f = f a ts := rfl
@[simp] theorem andS_ex (c) (ts) (f : α → List T → RS) : R.andS (.ex c ts) f = .ex c ts := rfl
@[simp] theorem andS_bad (f : α → List T → RS) : R.andS .bad f = .bad := rfl
@[simp] theorem thn_nx (ts) (n : S) : RS.thn (.nx ts) n = n ts := rfl
@[simp] theorem thn_rt (t ts) (n : S) : RS.thn (.rt t ts) n = .rt t ts := rfl
@[simp] theorem thn_bk (ts) (n : S) : RS.thn (.bk ts) n = .bk ts := rfl
@[simp] theorem thn_ct (ts) (n : S) : RS.thn (.ct ts) n = .ct ts := rfl
@[simp] theorem thn_ex (c ts) (n : S) : RS.thn (.ex c ts) n = .ex c ts := rfl
@[simp] theorem thn_bad (n : S) : RS.thn .bad n = .bad := rfl
@[simp] theorem fin_nx (ts n kp) : RS.fin (.nx ts) n kp = if ts.length = n then .ok (.z .non) (pickP kp ts) else .bad := rfl
@[simp] theorem fin_rt (t ts n kp) : RS.fin (.rt t ts) n kp = if ts.length = n then .ok t (pickP kp ts) else .bad := rfl
@[simp] theorem fin_ex (c ts n kp) : RS.fin (.ex c ts) n kp = if ts.length = n then .ex c (pickP kp ts) else .bad := rfl
@[simp] theorem lend_ok (t ts' ts) : R.lend (.ok t ts') ts = if t.fresh = true then .ok t ts else .bad := rfl
@[simp] theorem lend_ex (c ts' ts) : R.lend (.ex c ts') ts = .ex c ts := rfl
@[simp] theorem lendB_ok (t ts' ts) : R.lendB (.ok t ts') ts = .ok t ts := rfl
@[simp] theorem lendB_ex (c ts' ts) : R.lendB (.ex c ts') ts = .ex c ts := rfl
@[simp] theorem giveR_ok (t fins tks tl ts1) : R.give (.ok t fins) tks tl ts1 = .ok t (giveB tks tl fins ts1) := rfl
@[simp] theorem giveR_ex (c fins tks tl ts1) : R.give (.ex c fins) tks tl ts1 = .ex c (giveB tks tl fins ts1) := rfl
@[simp] theorem wipe_ok (a : α) (ts vs) : R.wipe (.ok a ts) vs = .ok a (wipeT ts vs) := rfl
@[simp] theorem bind_ap (m : M α) (f : α → M β) (ts) : (m >>= f) ts = (m ts).and f := by
  show M.andThen m f ts = _
  unfold M.andThen R.and
  cases m ts <;> rfl
@[simp] theorem bindS_ap (m : M α) (f : α → S) (ts) : bindS m f ts = (m ts).andS f := by
  unfold bindS R.andS
  cases m ts <;> rfl
end
@[simp] theorem ret_ap {α : Type} (a : α) (ts) : (M.ret a : M α) ts = .ok a ts := rfl
@[simp] theorem stop_ap {α : Type} (ts) : (stop : M α) ts = .bad := rfl
@[simp] theorem RS_nx_ap (ts) : RS.nx ts = RS.nx ts := rfl
@[simp] theorem sq_ap (m n : S) (ts) : sq m n ts = (m ts).thn n := by
  unfold sq RS.thn
  cases m ts <;> rfl
@[simp] theorem bodyR_ap (n kp) (m : S) (ts) : bodyR n kp m ts = (m (ts ++ List.replicate n .gone)).fin (ts.length + n) kp := by
  unfold bodyR RS.fin
  cases m (ts ++ List.replicate n .gone) <;> rfl
@[simp] theorem ifS_ap (c : M Bool) (m n : S) (ts) : ifS c m n ts = (c ts).andS fun b ts1 => if b = true then m ts1 else n ts1 := by
  unfold ifS
  rw [bindS_ap]
  congr 1
  funext b ts1
  cases b <;> rfl
@[simp] theorem retS_ap (m : M T) (ts) : retS m ts = (m ts).andS RS.rt := by unfold retS; rw [bindS_ap]
@[simp] theorem exprS_ap (m : M T) (ts) : exprS m ts = (m ts).andS fun _ ts1 => .nx ts1 := by unfold exprS; rw [bindS_ap]
@[simp] theorem setS_ap (i) (m : M T) (ts) : setS i m ts = (m ts).andS fun t ts1 => if i < ts1.length then .nx (ts1.set i t) else .bad := by unfold setS; rw [bindS_ap]
@[simp] theorem andB_ap (m n : M Bool) (ts) : andB m n ts = (m ts).and fun b ts1 => if b = true then n ts1 else .ok false ts1 := by
  unfold andB; rw [bind_ap]; congr 1; funext b ts1; cases b <;> rfl
@[simp] theorem orB_ap (m n : M Bool) (ts) : orB m n ts = (m ts).and fun b ts1 => if b = true then .ok true ts1 else n ts1 := by
  unfold orB; rw [bind_ap]; congr 1; funext b ts1; cases b <;> rfl
@[simp] theorem andV_ap (m n : M T) (ts) : andV m n ts = (m ts).and fun t ts1 => (asB t ts1).and fun b ts2 => if b = true then n ts2 else .ok (.z (.bl false)) ts2 := by
  unfold andV; rw [bind_ap, bind_ap]
  cases m ts with
  | ok t ts1 => rw [and_ok, and_ok]; congr 1; funext b ts2; cases b <;> rfl
  | ex c t => rfl
  | bad => rfl
@[simp] theorem orV_ap (m n : M T) (ts) : orV m n ts = (m ts).and fun t ts1 => (asB t ts1).and fun b ts2 => if b = true then .ok (.z (.bl true)) ts2 else n ts2 := by
  unfold orV; rw [bind_ap, bind_ap]
  cases m ts with
  | ok t ts1 => rw [and_ok, and_ok]; congr 1; funext b ts2; cases b <;> rfl
  | ex c t => rfl
  | bad => rfl
@[simp] theorem notV_ap (m : M T) (ts) : notV m ts = (m ts).and fun t ts1 => (asB t ts1).and fun b ts2 => .ok (.z (.bl !b)) ts2 := by
  unfold notV; rw [bind_ap, bind_ap]
  cases m ts with
  | ok t ts1 => rw [and_ok, and_ok]; rfl
  | ex c t => rfl
  | bad => rfl
@[simp] theorem ifV_ap (c : M Bool) (m n : M T) (ts) : ifV c m n ts = (c ts).and fun b ts1 => if b = true then m ts1 else n ts1 := by
  unfold ifV; rw [bind_ap]; congr 1; funext b ts1; cases b <;> rfl
@[simp] theorem asB_bl (b ts) : asB (.z (.bl b)) ts = .ok b ts := rfl
@[simp] theorem notB_ap (m : M Bool) (ts) : notB m ts = (m ts).and fun b ts1 => .ok (!b) ts1 := by unfold notB; rw [bind_ap]; rfl
@[simp] theorem tsB_ap (m : M T) (ts) : tsB m ts = (m ts).and asB := by unfold tsB; rw [bind_ap]
@[simp] theorem binA_ap (f ma mc ts) : binA f ma mc ts = (ma ts).and fun x ts1 => (see mc ts1).and fun y ts2 => opt (f x y) ts2 := by
  unfold binA; rw [bind_ap]; congr 1
@[simp] theorem binZ_ap (f ma mb ts) : binZ f ma mb ts = (ma ts).and fun x ts1 => (mb ts1).and fun y ts2 => opt (f x y) ts2 := by
  unfold binZ; rw [bind_ap]; congr 1
@[simp] theorem un1_ap (f) (ma : M D) (ts) : un1 f ma ts = (ma ts).and fun y ts1 => opt (f y) ts1 := by unfold un1; rw [bind_ap]
@[simp] theorem zT_ap (m : M T) (ts) : zT m ts = (m ts).and fun t ts1 => opt t.fz ts1 := by unfold zT; rw [bind_ap]; rfl
@[simp] theorem fzM_ap (m : M T) (ts) : fzM m ts = (m ts).and fun t ts1 => (opt t.fz ts1).and fun d ts2 => .ok (.z d) ts2 := by unfold fzM; rw [bind_ap]; congr 1
@[simp] theorem kA_ap (d ts) : kA d ts = some d := rfl
@[simp] theorem kT_ap (d ts) : kT d ts = .ok (.z d) ts := rfl
@[simp] theorem see_ap (m ts) : see m ts = opt (m ts) ts := rfl
@[simp] theorem seeN_ap (i ts) : seeN i ts = (ts[i]?).bind T.vw := rfl
@[simp] theorem isN_ap (m : M D) (ts) : isN m ts = (m ts).and fun d ts1 => .ok (.z (.bl (isNonD d))) ts1 := by unfold isN; rw [bind_ap]; rfl
@[simp] theorem isNN_ap (m : M D) (ts) : isNN m ts = (m ts).and fun d ts1 => .ok (.z (.bl !isNonD d)) ts1 := by unfold isNN; rw [bind_ap]; rfl
@[simp] theorem isNB_ap (m : M D) (ts) : isNB m ts = (m ts).and fun d ts1 => .ok (isNonD d) ts1 := by unfold isNB; rw [bind_ap]; rfl
@[simp] theorem isNNB_ap (m : M D) (ts) : isNNB m ts = (m ts).and fun d ts1 => .ok (!isNonD d) ts1 := by unfold isNNB; rw [bind_ap]; rfl
@[simp] theorem isiM_ap (t m ts) : isiM t m ts = (m ts).and fun d ts1 => opt (isi t d) ts1 := by unfold isiM; rw [bind_ap]
@[simp] theorem isi2M_ap (t u m ts) : isi2M t u m ts = (m ts).and fun d ts1 => opt (isi2 t u d) ts1 := by unfold isi2M; rw [bind_ap]
@[simp] theorem itM_ap (f) (m : M D) (ts) : itM f m ts = (m ts).and fun d ts1 => opt (f d) ts1 := by unfold itM; rw [bind_ap]
@[simp] theorem it2M_ap (f) (m n : M D) (ts) : it2M f m n ts = (m ts).and fun d ts1 => (n ts1).and fun e ts2 => opt (f d e) ts2 := by
  unfold it2M; rw [bind_ap]; congr 1
@[simp] theorem isNonD_non : isNonD .non = true := rfl
@[simp] theorem isNonD_int (i) : isNonD (.int i) = false := rfl
@[simp] theorem isNonD_bl (i) : isNonD (.bl i) = false := rfl
@[simp] theorem isNonD_str (i) : isNonD (.str i) = false := rfl
@[simp] theorem isNonD_lst (i) : isNonD (.lst i) = false := rfl
@[simp] theorem isNonD_tup (i) : isNonD (.tup i) = false := rfl
@[simp] theorem isNonD_dk (i) : isNonD (.dk i) = false := rfl
/-! names -/
def rdF (i : Nat) (ts : List T) : Option D → R T
  | some d => .ok (.z d) (ts.set i (.z d))
  | none => .bad
def rdT (i : Nat) (ts : List T) : Option T → R T
  | some t => rdF i ts t.fz
  | none => .bad
@[simp] theorem rdF_some (i ts d) : rdF i ts (some d) = .ok (.z d) (ts.set i (.z d)) := rfl
@[simp] theorem rdT_some (i ts t) : rdT i ts (some t) = rdF i ts t.fz := rfl
@[simp] theorem rdz_ap (i ts) : rdz i ts = rdT i ts ts[i]? := by
  unfold rdz rdT
  cases ts[i]? with
  | none => rfl
  | some t =>
    show (match t.fz with | some d => R.ok (T.z d) (ts.set i (T.z d)) | none => R.bad) = rdF i ts t.fz
    unfold rdF
    cases t.fz <;> rfl
def mvT (i : Nat) (ts : List T) : Option T → R T
  | some (.z d) => .ok (.z d) ts
  | some .gone => .bad
  | some t => .ok t (ts.set i .gone)
  | none => .bad
@[simp] theorem mvT_z (i ts d) : mvT i ts (some (.z d)) = .ok (.z d) ts := rfl
@[simp] theorem mvT_l (i ts d) : mvT i ts (some (.l d)) = .ok (.l d) (ts.set i .gone) := rfl
@[simp] theorem mvT_dk (i ts d) : mvT i ts (some (.dk d)) = .ok (.dk d) (ts.set i .gone) := rfl
@[simp] theorem mvT_dt (i ts d) : mvT i ts (some (.dt d)) = .ok (.dt d) (ts.set i .gone) := rfl
@[simp] theorem mvT_ob (i ts c d) : mvT i ts (some (.ob c d)) = .ok (.ob c d) (ts.set i .gone) := rfl
@[simp] theorem mv_ap (i ts) : mv i ts = mvT i ts ts[i]? := by
  unfold mv mvT
  cases ts[i]? with
  | none => rfl
  | some t => cases t <;> rfl
def liveO : Option T → Bool
  | some .gone => false
  | some _ => true
  | none => false
@[simp] theorem liveO_z (d) : liveO (some (.z d)) = true := rfl
@[simp] theorem liveO_l (d) : liveO (some (.l d)) = true := rfl
@[simp] theorem liveO_dk (d) : liveO (some (.dk d)) = true := rfl
@[simp] theorem liveO_dt (d) : liveO (some (.dt d)) = true := rfl
@[simp] theorem liveO_ob (c d) : liveO (some (.ob c d)) = true := rfl
@[simp] theorem live_ap (i ts) : live i ts = liveO ts[i]? := by
  unfold live liveO
  cases ts[i]? with
  | none => rfl
  | some t => cases t <;> rfl
@[simp] theorem argEx_ap (m : M T) (ms : M (List T)) (ts) : argEx m ms ts = (m ts).and fun t ts1 => (ms ts1).and fun tl ts2 => .ok (t :: tl) ts2 := by
  unfold argEx; rw [bind_ap]; congr 1
@[simp] theorem argTk_ap (i) (ms : M (List T)) (ts) : argTk i ms ts = if liveO ts[i]? = true then (ms ts).and fun tl ts1 => (mvT i ts1 ts1[i]?).and fun t ts2 => .ok (t :: tl) ts2 else .bad := by
  unfold argTk
  rw [live_ap]
  split
  · rw [bind_ap]; congr 1
  · rfl
@[simp] theorem callM_ap (f tks ms ts) : callM f tks ms ts = (ms ts).and fun tl ts1 => (f tl).give tks tl ts1 := by
  unfold callM R.and R.give
  cases ms ts with
  | ok tl ts1 => cases q : f tl <;> simp [q]
  | ex c t => rfl
  | bad => rfl
@[simp] theorem giveB_nil (a b ts) : giveB [] a b ts = ts := rfl
@[simp] theorem giveB_cons (o tks t tl fin fins ts) : giveB (o :: tks) (t :: tl) (fin :: fins) ts = giveB tks tl fins (give1 o t fin ts) := rfl
@[simp] theorem give1_none (t fin ts) : give1 none t fin ts = ts := rfl
@[simp] theorem give1_z (i d fin ts) : give1 (some i) (.z d) fin ts = ts := rfl
@[simp] theorem give1_l (i d fin ts) : give1 (some i) (.l d) fin ts = ts.set i fin := rfl
@[simp] theorem give1_dk (i d fin ts) : give1 (some i) (.dk d) fin ts = ts.set i fin := rfl
@[simp] theorem give1_dt (i d fin ts) : give1 (some i) (.dt d) fin ts = ts.set i fin := rfl
@[simp] theorem give1_ob (i c d fin ts) : give1 (some i) (.ob c d) fin ts = ts.set i fin := rfl
@[simp] theorem tupM_ap (ms ts) : tupM ms ts = (ms ts).and fun tl ts1 => (opt (T.fzs tl) ts1).and fun ds ts2 => if ds.length ≤ lim then .ok (.z (.tup ds)) ts2 else .bad := by
  unfold tupM; rw [bind_ap]; congr 1; funext tl ts1
  cases T.fzs tl with
  | none => rfl
  | some ds => rw [opt_some, and_ok]; dsimp only; split <;> rfl
@[simp] theorem lstM_ap (ms ts) : lstM ms ts = (ms ts).and fun tl ts1 => if tl.length ≤ lim then .ok (.l tl) ts1 else .bad := by
  unfold lstM; rw [bind_ap]; congr 1; funext tl ts1; split <;> rfl
@[simp] theorem lendM_ap (m ts) : lendM m ts = (m (ts.map frzT)).lend ts := by
  unfold lendM R.lend
  cases m (ts.map frzT) <;> rfl
@[simp] theorem lendB_ap (m ts) : lendB m ts = (m (ts.map frzT)).lendB ts := by
  unfold lendB R.lendB
  cases m (ts.map frzT) <;> rfl
def frzO : Option (List D) → T
  | some ds => .z (.lst ds)
  | none => .gone
@[simp] theorem frzO_some (ds) : frzO (some ds) = .z (.lst ds) := rfl
@[simp] theorem frzT_z (d) : frzT (.z d) = .z d := rfl
@[simp] theorem frzT_gone : frzT .gone = .gone := rfl
@[simp] theorem frzT_l (l) : frzT (.l l) = frzO (T.fzs l) := by
  show (match T.fz (.l l) with | some d => T.z d | none => .gone) = _
  rw [T.fz]
  cases T.fzs l <;> rfl
/-! data -/
def cons2 {α : Type} : Option α → Option (List α) → Option (List α)
  | some a, some l => some (a :: l)
  | _, _ => none
@[simp] theorem cons2_some {α : Type} (a : α) (l) : cons2 (some a) (some l) = some (a :: l) := rfl
@[simp] theorem fz_z (d) : T.fz (.z d) = some d := rfl
@[simp] theorem fz_l_eq (l) : T.fz (.l l) = (T.fzs l).map D.lst := by rw [T.fz]; cases T.fzs l <;> rfl
@[simp] theorem fzs_nil : T.fzs [] = some [] := rfl
@[simp] theorem fzs_cons (t ts) : T.fzs (t :: ts) = cons2 t.fz (T.fzs ts) := by
  rw [T.fzs]; cases T.fz t <;> cases T.fzs ts <;> rfl
@[simp] theorem fzs_zmap (ds : List D) : T.fzs (ds.map T.z) = some ds := fzs_z ds
@[simp] theorem vw_z (d) : T.vw (.z d) = some d := rfl
@[simp] theorem vw_l_eq (l) : T.vw (.l l) = (vwz l).map D.lst := by rw [T.vw]; cases vwz l <;> rfl
@[simp] theorem vwz_nil : vwz [] = some [] := rfl
@[simp] theorem vwz_cons (d ts) : vwz (.z d :: ts) = cons2 (some d) (vwz ts) := by rw [vwz]; cases vwz ts <;> rfl
@[simp] theorem vwz_map (ds : List D) : vwz (ds.map T.z) = some ds := vwz_of ds
@[simp] theorem fresh_z (d) : T.fresh (.z d) = d.atom := by rw [T.fresh]
@[simp] theorem fresh_l (l) : T.fresh (.l l) = T.freshs l := by rw [T.fresh]
@[simp] theorem fresh_dk (l) : T.fresh (.dk l) = T.freshk l := by rw [T.fresh]
@[simp] theorem fresh_ob (c l) : T.fresh (.ob c l) = T.fresho l := by rw [T.fresh]
@[simp] theorem fresh_gone : T.fresh .gone = true := by rw [T.fresh]
@[simp] theorem freshs_nil : T.freshs [] = true := by rw [T.freshs]
@[simp] theorem freshs_cons (t ts) : T.freshs (t :: ts) = (T.fresh t && T.freshs ts) := by rw [T.freshs]
@[simp] theorem freshk_nil : T.freshk [] = true := by rw [T.freshk]
@[simp] theorem freshk_cons (k t ts) : T.freshk ((k, t) :: ts) = (T.fresh t && T.freshk ts) := by rw [T.freshk]
@[simp] theorem fresho_nil : T.fresho [] = true := by rw [T.fresho]
@[simp] theorem fresho_cons (k t ts) : T.fresho ((k, t) :: ts) = (T.fresh t && T.fresho ts) := by rw [T.fresho]
@[simp] theorem atom_int (i) : D.atom (.int i) = true := by rw [D.atom]
@[simp] theorem atom_bl (i) : D.atom (.bl i) = true := by rw [D.atom]
@[simp] theorem atom_str (i) : D.atom (.str i) = true := by rw [D.atom]
@[simp] theorem atom_non : D.atom .non = true := by rw [D.atom]
@[simp] theorem atom_tup (l) : D.atom (.tup l) = D.atoms l := by rw [D.atom]
@[simp] theorem atoms_nil : D.atoms [] = true := by rw [D.atoms]
@[simp] theorem atoms_cons (d l) : D.atoms (d :: l) = (D.atom d && D.atoms l) := by rw [D.atoms]
@[simp] theorem isZ_z (d) : T.isZ (.z d) = true := rfl
@[simp] theorem isZ_l (d) : T.isZ (.l d) = false := rfl
@[simp] theorem pickP_t (r t ts) : pickP (true :: r) (t :: ts) = t :: pickP r ts := rfl
@[simp] theorem pickP_f (r t ts) : pickP (false :: r) (t :: ts) = .gone :: pickP r ts := rfl
@[simp] theorem pickP_nil (ts) : pickP [] ts = [] := by cases ts <;> rfl
/-! lists of numbers -/
def nT (l : List Int) : List T := l.map fun i => T.z (D.int i)
def nD (l : List Int) : List D := l.map D.int
@[simp] theorem nD_nT (l) : (nD l).map T.z = nT l := by unfold nD nT; rw [List.map_map]; rfl
@[simp] theorem map_nT (l : List Int) : (l.map fun i => T.z (D.int i)) = nT l := rfl
@[simp] theorem map_nD (l : List Int) : (l.map D.int) = nD l := rfl
@[simp] theorem fzs_nT (l) : T.fzs (nT l) = some (nD l) := by rw [← nD_nT, fzs_z]
@[simp] theorem vwz_nT (l) : vwz (nT l) = some (nD l) := by rw [← nD_nT, vwz_of]
@[simp] theorem freshs_nT (l) : T.freshs (nT l) = true := by
  induction l with
  | nil => rfl
  | cons x l ih => show T.freshs (.z (.int x) :: nT l) = true; rw [freshs_cons, ih, fresh_z, atom_int]; rfl
@[simp] theorem nD_length (l) : (nD l).length = l.length := List.length_map _
@[simp] theorem nT_length (l) : (nT l).length = l.length := List.length_map _
@[simp] theorem nD_append (a b) : nD a ++ nD b = nD (a ++ b) := (List.map_append ..).symm
@[simp] theorem nT_append (a b) : nT a ++ nT b = nT (a ++ b) := (List.map_append ..).symm
@[simp] theorem nD_app1 (a i) : nD a ++ [.int i] = nD (a ++ [i]) := nD_append a [i]
@[simp] theorem nT_app1 (a i) : nT a ++ [.z (.int i)] = nT (a ++ [i]) := nT_append a [i]
theorem nD_nil : nD [] = [] := rfl
theorem nT_nil : nT [] = [] := rfl
theorem nD_cons (a l) : nD (a :: l) = .int a :: nD l := rfl
@[simp] theorem nD_get (l : List Int) (i : Nat) : (nD l)[i]? = (l[i]?).map D.int := List.getElem?_map ..
@[simp] theorem nT_get (l : List Int) (i : Nat) : (nT l)[i]? = (l[i]?).map fun i => T.z (D.int i) := List.getElem?_map ..
@[simp] theorem intsD_nD (l) : intsD (nD l) = some l := by
  induction l with
  | nil => rfl
  | cons x l ih => show intsD (.int x :: nD l) = _; rw [intsD, ih]; rfl
@[simp] theorem nD_take (l : List Int) (k) : (nD l).take k = nD (l.take k) := (List.map_take ..).symm
@[simp] theorem nT_take (l : List Int) (k) : (nT l).take k = nT (l.take k) := (List.map_take ..).symm
@[simp] theorem nD_drop (l : List Int) (k) : (nD l).drop k = nD (l.drop k) := (List.map_drop ..).symm
@[simp] theorem nT_drop (l : List Int) (k) : (nT l).drop k = nT (l.drop k) := (List.map_drop ..).symm
theorem cut_to {α : Type} (xs : List α) {k : Int} (h : 0 ≤ k) : cutD xs none (some k) = xs.take k.toNat := by
  unfold cutD
  show (xs.drop 0).take ((if k < 0 then (k + (xs.length : Int)).toNat else min k.toNat xs.length) - 0) = _
  rw [if_neg (by omega), List.drop_zero, Nat.sub_zero]
  by_cases hl : k.toNat ≤ xs.length
  · rw [Nat.min_eq_left hl]
  · rw [Nat.min_eq_right (by omega), List.take_of_length_le (Nat.le_refl _), List.take_of_length_le (by omega)]
theorem cut_from {α : Type} (xs : List α) {k : Int} (h : 0 ≤ k) : cutD xs (some k) none = xs.drop k.toNat := by
  unfold cutD
  show (xs.drop (if k < 0 then (k + (xs.length : Int)).toNat else min k.toNat xs.length)).take (xs.length - (if k < 0 then (k + (xs.length : Int)).toNat else min k.toNat xs.length)) = _
  rw [if_neg (by omega)]
  by_cases hl : k.toNat ≤ xs.length
  · rw [Nat.min_eq_left hl, List.take_of_length_le (by rw [List.length_drop]; omega)]
  · rw [Nat.min_eq_right (by omega), List.drop_of_length_le (by omega : xs.length ≤ k.toNat)]; simp
@[simp] theorem cutD_nT (l : List Int) (a b) : cutD (nT l) a b = nT (cutD l a b) := by unfold cutD; simp
@[simp] theorem cutD_nD (l : List Int) (a b) : cutD (nD l) a b = nD (cutD l a b) := by unfold cutD; simp
@[simp] theorem slM_ap (ma lo hi ts) : slM ma lo hi ts = (ma ts).and fun d ts1 => (optI lo ts1).and fun l ts2 => (optI hi ts2).and fun h ts3 => opt (oSl d l h) ts3 := by
  unfold slM
  rw [bind_ap]
  congr 1
@[simp] theorem optI_none (ts) : optI none ts = .ok none ts := rfl
@[simp] theorem optI_some (m ts) : optI (some m) ts = (m ts).and fun d ts1 => (opt (toI d) ts1).and fun i ts2 => .ok (some i) ts2 := by
  show (m >>= fun d => match toI d with | some i => M.ret (some i) | none => stop) ts = _
  rw [bind_ap]
  congr 1
  funext d ts1
  cases toI d <;> rfl
@[simp] theorem oSl_nD (l a b) : oSl (.lst (nD l)) a b = some (.l (nT (cutD l a b))) := by
  show some (T.l ((cutD (nD l) a b).map .z)) = _
  rw [cutD_nD, nD_nT]
@[simp] theorem oSl_scr (l a b) : oSl (.scr l) a b = some (.l (nT (cutD l a b))) := rfl
/-! operations on data -/
@[simp] theorem oAdd_int (i j) : oAdd (.int i) (.int j) = some (.z (.int (i + j))) := rfl
@[simp] theorem oAdd_lst (a b) : oAdd (.lst a) (.lst b) = if a.length + b.length ≤ lim then some (.l ((a ++ b).map .z)) else none := rfl
@[simp] theorem oAdd_tup (a b) : oAdd (.tup a) (.tup b) = if a.length + b.length ≤ lim then some (.z (.tup (a ++ b))) else none := rfl
@[simp] theorem oAdd_str (a b) : oAdd (.str a) (.str b) = if a.length + b.length ≤ lim then some (.z (.str (a ++ b))) else none := rfl
@[simp] theorem oSub_int (i j) : oSub (.int i) (.int j) = some (.z (.int (i - j))) := rfl
@[simp] theorem oMul_int (i j) : oMul (.int i) (.int j) = if small i ∨ small j ∨ (i.natAbs < bigN ∧ j.natAbs < bigN) then some (.z (.int (i * j))) else none := by unfold oMul; rfl
@[simp] theorem oDiv_int (i j) : oDiv (.int i) (.int j) = if 0 < j ∧ j.natAbs < bigN then some (.z (.int (i / j))) else none := by unfold oDiv; rfl
@[simp] theorem oMod_int (i j) : oMod (.int i) (.int j) = if 0 < j then some (.z (.int (i % j))) else none := by unfold oMod; rfl
@[simp] theorem oPow_int (i j) : oPow (.int i) (.int j) = if 0 ≤ j ∧ j ≤ 1000000 ∧ small i then some (.z (.int (i ^ j.toNat))) else none := by unfold oPow; rfl
@[simp] theorem oLt_int (i j) : oLt (.int i) (.int j) = some (.z (.bl (decide (i < j)))) := rfl
@[simp] theorem oLe_int (i j) : oLe (.int i) (.int j) = some (.z (.bl (decide (i ≤ j)))) := rfl
@[simp] theorem oGt_int (i j) : oGt (.int i) (.int j) = some (.z (.bl (decide (j < i)))) := rfl
@[simp] theorem oGe_int (i j) : oGe (.int i) (.int j) = some (.z (.bl (decide (j ≤ i)))) := rfl
@[simp] theorem oNeg_int (i) : oNeg (.int i) = some (.z (.int (-i))) := rfl
@[simp] theorem oAbs_int (i) : oAbs (.int i) = some (.z (.int (if i < 0 then -i else i))) := rfl
@[simp] theorem oLen_lst (l) : oLen (.lst l) = some (.z (.int l.length)) := rfl
@[simp] theorem oLen_tup (l) : oLen (.tup l) = some (.z (.int l.length)) := rfl
@[simp] theorem oLen_scr (l) : oLen (.scr l) = some (.z (.int l.length)) := rfl
@[simp] theorem oLen_dk (l) : oLen (.dk l) = some (.z (.int l.length)) := rfl
@[simp] theorem oLen_st (l) : oLen (.st l) = if l.length < 4000 then some (.z (.int l.length)) else none := rfl
@[simp] theorem oList_lst (l) : oList (.lst l) = some (.l (l.map .z)) := rfl
@[simp] theorem oList_tup (l) : oList (.tup l) = some (.l (l.map .z)) := rfl
@[simp] theorem oTuple_lst (l) : oTuple (.lst l) = some (.z (.tup l)) := rfl
@[simp] theorem oTuple_tup (l) : oTuple (.tup l) = some (.z (.tup l)) := rfl
@[simp] theorem oSet_nD (l) : oSet (.lst (nD l)) = if l.length < 4000 then some (.z (.st (ddp l))) else none := by
  show (match intsD (nD l) with | some ns => if ns.length < 4000 then some (T.z (.st (ddp ns))) else none | none => none) = _
  rw [intsD_nD]
@[simp] theorem oSet_nDt (l) : oSet (.tup (nD l)) = if l.length < 4000 then some (.z (.st (ddp l))) else none := by
  show (match intsD (nD l) with | some ns => if ns.length < 4000 then some (T.z (.st (ddp ns))) else none | none => none) = _
  rw [intsD_nD]
@[simp] theorem oSorted_st (l) : oSorted (.st l) = if l.length < 64 then some (.l (nT (isort l))) else none := rfl
@[simp] theorem oSorted_nD (l) : oSorted (.lst (nD l)) = some (.l (nT (isort l))) := by
  show (match intsD (nD l) with | some ns => some (T.l ((isort ns).map fun i => .z (.int i))) | none => none) = _
  rw [intsD_nD]; rfl
@[simp] theorem oSum_nD (l) : oSum (.lst (nD l)) = some (.z (.int l.sum)) := by
  show (match intsD (nD l) with | some ns => some (T.z (.int ns.sum)) | none => none) = _
  rw [intsD_nD]
@[simp] theorem oSum_nDt (l) : oSum (.tup (nD l)) = some (.z (.int l.sum)) := by
  show (match intsD (nD l) with | some ns => some (T.z (.int ns.sum)) | none => none) = _
  rw [intsD_nD]
@[simp] theorem itemsOf_lst (l) : itemsOf (.lst l) = some l := rfl
@[simp] theorem itemsOf_tup (l) : itemsOf (.tup l) = some l := rfl
@[simp] theorem itemsOf_scr (l) : itemsOf (.scr l) = some (nD l) := rfl
@[simp] theorem toI_int (i) : toI (.int i) = some i := rfl
@[simp] theorem rng1_int (j) : rng1 (.int j) = if big62 j then some (upto 0 j) else none := by unfold rng1; rfl
@[simp] theorem rng2_int (i j) : rng2 (.int i) (.int j) = if big62 i ∧ big62 j then some (upto i j) else none := by unfold rng2; rfl
@[simp] theorem oIx_lst (l i) : oIx (.lst l) (.int i) = (atI l i).map .z := rfl
@[simp] theorem oIx_tup (l i) : oIx (.tup l) (.int i) = (atI l i).map .z := rfl
@[simp] theorem atI_nat {α : Type} (l : List α) (i : Nat) : atI l (i : Int) = l[i]? := by
  unfold atI ixN
  by_cases h : i < l.length
  · rw [if_pos (by omega), if_pos (by omega)]; simp
  · rw [if_pos (by omega), if_neg (by omega), List.getElem?_eq_none (by omega)]; rfl
@[simp] theorem atI_zero {α : Type} (l : List α) : atI l 0 = l[0]? := atI_nat l 0
@[simp] theorem atI_one {α : Type} (l : List α) : atI l 1 = l[1]? := atI_nat l 1
@[simp] theorem atI_2 {α : Type} (l : List α) : atI l 2 = l[2]? := atI_nat l 2
@[simp] theorem atI_3 {α : Type} (l : List α) : atI l 3 = l[3]? := atI_nat l 3
@[simp] theorem atI_4 {α : Type} (l : List α) : atI l 4 = l[4]? := atI_nat l 4
@[simp] theorem atI_5 {α : Type} (l : List α) : atI l 5 = l[5]? := atI_nat l 5
@[simp] theorem atI_6 {α : Type} (l : List α) : atI l 6 = l[6]? := atI_nat l 6
@[simp] theorem atI_7 {α : Type} (l : List α) : atI l 7 = l[7]? := atI_nat l 7
@[simp] theorem atI_8 {α : Type} (l : List α) : atI l 8 = l[8]? := atI_nat l 8
@[simp] theorem atI_9 {α : Type} (l : List α) : atI l 9 = l[9]? := atI_nat l 9
@[simp] theorem atI_10 {α : Type} (l : List α) : atI l 10 = l[10]? := atI_nat l 10
@[simp] theorem atI_11 {α : Type} (l : List α) : atI l 11 = l[11]? := atI_nat l 11
@[simp] theorem atI_12 {α : Type} (l : List α) : atI l 12 = l[12]? := atI_nat l 12
@[simp] theorem atI_13 {α : Type} (l : List α) : atI l 13 = l[13]? := atI_nat l 13
@[simp] theorem atI_14 {α : Type} (l : List α) : atI l 14 = l[14]? := atI_nat l 14
@[simp] theorem atI_15 {α : Type} (l : List α) : atI l 15 = l[15]? := atI_nat l 15
/-! x[k] = e -/
def isCO : Option T → Bool
  | some (.l _) => true
  | some (.dk _) => true
  | some (.dt _) => true
  | _ => false
@[simp] theorem isCO_dt (x) : isCO (some (.dt x)) = true := rfl
@[simp] theorem isCO_l (x) : isCO (some (.l x)) = true := rfl
@[simp] theorem isCO_dk (x) : isCO (some (.dk x)) = true := rfl
def stU (i : Nat) (ts : List T) : Option T → RS
  | some u' => .nx (ts.set i u')
  | none => .bad
@[simp] theorem stU_some (i ts u) : stU i ts (some u) = .nx (ts.set i u) := rfl
def stT (i : Nat) (d : D) (t : T) (ts : List T) : Option T → RS
  | some u => stU i ts (setAt d t u)
  | none => .bad
@[simp] theorem stT_some (i d t ts u) : stT i d t ts (some u) = stU i ts (setAt d t u) := rfl
@[simp] theorem stM_ap (i) (mk : M D) (me : M T) (ts) : stM i mk me ts = (me ts).andS fun t ts1 => if isCO ts1[i]? = true then (mk ts1).andS fun d ts2 => stT i d t ts2 ts2[i]? else .bad := by
  unfold stM
  rw [bindS_ap]
  congr 1
def setK (xs : List T) (t : T) : Option Nat → Option T
  | some k => some (.l (xs.set k t))
  | none => none
@[simp] theorem setK_some (xs t k) : setK xs t (some k) = some (.l (xs.set k t)) := rfl
@[simp] theorem setAt_int (j : Int) (t xs) : setAt (.int j) t (.l xs) = setK xs t (ixN xs.length j) := rfl
@[simp] theorem ixN_nat (n i : Nat) : ixN n (i : Int) = if i < n then some i else none := by
  unfold ixN
  rw [if_pos (by omega)]
  by_cases h : i < n
  · rw [if_pos (by omega), if_pos h]; rfl
  · rw [if_neg (by omega), if_neg h]
@[simp] theorem ixN_0 (n : Nat) : ixN n 0 = if 0 < n then some 0 else none := ixN_nat n 0
@[simp] theorem ixN_1 (n : Nat) : ixN n 1 = if 1 < n then some 1 else none := ixN_nat n 1
@[simp] theorem ixN_2 (n : Nat) : ixN n 2 = if 2 < n then some 2 else none := ixN_nat n 2
@[simp] theorem ixN_3 (n : Nat) : ixN n 3 = if 3 < n then some 3 else none := ixN_nat n 3
@[simp] theorem ixN_4 (n : Nat) : ixN n 4 = if 4 < n then some 4 else none := ixN_nat n 4
@[simp] theorem ixN_5 (n : Nat) : ixN n 5 = if 5 < n then some 5 else none := ixN_nat n 5
@[simp] theorem ixN_6 (n : Nat) : ixN n 6 = if 6 < n then some 6 else none := ixN_nat n 6
@[simp] theorem ixN_7 (n : Nat) : ixN n 7 = if 7 < n then some 7 else none := ixN_nat n 7
@[simp] theorem ixN_8 (n : Nat) : ixN n 8 = if 8 < n then some 8 else none := ixN_nat n 8
@[simp] theorem ixN_9 (n : Nat) : ixN n 9 = if 9 < n then some 9 else none := ixN_nat n 9
@[simp] theorem le_lim {n : Nat} (h : n ≤ 1000000) : n ≤ lim := h
@[simp] theorem lt_lim {n : Nat} (h : n < 1000000) : n < lim := h
/-! walks -/
@[simp] theorem forS_ap (m put body ts) : forS m put body ts = (m ts).andS fun ds ts1 => loopS put body ds ts1 := by unfold forS; rw [bindS_ap]
@[simp] theorem compM_ap (mi vs put mc me ts) : compM mi vs put mc me ts = (mi ts).and fun ds ts1 => (compR vs put mc me ds ts1).and fun l ts2 => if l.length ≤ lim then .ok (.l (l.map .z)) ts2 else .bad := by
  unfold compM; rw [bind_ap]; congr 1; funext ds ts1; rw [bind_ap]; congr 1; funext l ts2; split <;> rfl
@[simp] theorem put_n (i d ts) : Tg.put (.n i) d ts = if i < ts.length then some (ts.set i (.z d)) else none := by rw [Tg.put]
@[simp] theorem put_t (l ds ts) : Tg.put (.t l) (.tup ds) ts = Tg.puts l ds ts := by rw [Tg.put]; rfl
@[simp] theorem puts_nil (ts) : Tg.puts [] [] ts = some ts := by rw [Tg.puts]
@[simp] theorem puts_cons (g gs d ds ts) : Tg.puts (g :: gs) (d :: ds) ts = (Tg.put g d ts).bind (Tg.puts gs ds) := by
  rw [Tg.puts]; cases Tg.put g d ts <;> rfl
@[simp] theorem wipeT_nil (ts) : wipeT ts [] = ts := rfl
@[simp] theorem wipeT_cons (ts v vs) : wipeT ts (v :: vs) = (wipeT ts vs).set v .gone := rfl
def putO {β : Type} (o : Option (List T)) (f : List T → R β) : R β := match o with
  | none => .bad
  | some ts1 => f ts1
@[simp] theorem putO_some {β : Type} (ts1) (f : List T → R β) : putO (some ts1) f = f ts1 := rfl
def cTurn (put : D → List T → Option (List T)) (mc : M Bool) (me : M D) (d : D) (ts : List T) : R (Option D) :=
  putO (put d ts) fun ts1 => (mc ts1).and fun b ts2 => if b = true then (me ts2).and fun y ts3 => .ok (some y) ts3 else .ok none ts2
@[simp] theorem cTurn_ap (put mc me d ts) : cTurn put mc me d ts = putO (put d ts) fun ts1 => (mc ts1).and fun b ts2 => if b = true then (me ts2).and fun y ts3 => .ok (some y) ts3 else .ok none ts2 := rfl
def scanD {α : Type} (f : α → D → Option D × α) : α → List D → List D × α
  | a, [] => ([], a)
  | a, d :: ds => match (f a d).1 with
    | some y => (y :: (scanD f (f a d).2 ds).1, (scanD f (f a d).2 ds).2)
    | none => scanD f (f a d).2 ds
theorem scanD_cons {α : Type} (f : α → D → Option D × α) (a d ds) : scanD f a (d :: ds) = match (f a d).1 with
    | some y => (y :: (scanD f (f a d).2 ds).1, (scanD f (f a d).2 ds).2)
    | none => scanD f (f a d).2 ds := rfl
theorem compR_scan {α : Type} {vs : List Nat} {put : D → List T → Option (List T)} {mc : M Bool} {me : M D} (enc : α → List T) (f : α → D → Option D × α) (I : α → Prop) :
    ∀ (ds : List D) (a : α) (ts : List T), I a → wipeT ts vs = enc a → (∀ a d, d ∈ ds → I a → (cTurn put mc me d (enc a)).wipe vs = .ok (f a d).1 (enc (f a d).2) ∧ I (f a d).2) →
      compR vs put mc me ds ts = .ok (scanD f a ds).1 (enc (scanD f a ds).2) ∧ I (scanD f a ds).2
  | [], a, ts, ha, e, _ => by rw [compR]; dsimp only; rw [e]; exact ⟨rfl, ha⟩
  | d :: ds, a, ts, ha, e, h => by
    obtain ⟨h0, h1⟩ := h a d List.mem_cons_self ha
    have rest := fun ts' e' => compR_scan enc f I ds (f a d).2 ts' h1 e' (fun a' d' hd => h a' d' (List.mem_cons_of_mem _ hd))
    rw [compR]; dsimp only; rw [e]
    unfold cTurn at h0
    cases q : put d (enc a) with
    | none => rw [q] at h0; cases h0
    | some ts1 =>
      simp only [q, putO_some] at h0 ⊢
      cases q1 : mc ts1 with
      | ok b ts2 =>
        simp only [q1, and_ok] at h0 ⊢
        by_cases hb : b = true
        · rw [if_pos hb] at h0
          rw [if_pos hb]
          cases q2 : me ts2 with
          | ok y ts3 =>
            simp only [q2, and_ok, wipe_ok] at h0 ⊢
            injection h0 with e1 e2
            obtain ⟨r1, r2⟩ := rest ts3 e2
            rw [r1]
            rw [scanD_cons, ← e1]
            exact ⟨rfl, r2⟩
          | ex c t => simp only [q2, and_ex] at h0; cases h0
          | bad => simp only [q2] at h0; cases h0
        · rw [if_neg hb] at h0
          rw [if_neg hb]
          simp only [wipe_ok] at h0
          injection h0 with e1 e2
          obtain ⟨r1, r2⟩ := rest ts2 e2
          rw [r1]
          rw [scanD_cons, ← e1]
          exact ⟨rfl, r2⟩
      | ex c t => simp only [q1, and_ex] at h0; cases h0
      | bad => simp only [q1] at h0; cases h0
/-- .. where the turns leave no trace -/
theorem compR_pure {vs : List Nat} {put : D → List T → Option (List T)} {mc : M Bool} {me : M D} {ts ts0 : List T} {ds : List D} (g : D → Option D) (e : wipeT ts vs = ts0)
    (h : ∀ d ∈ ds, (cTurn put mc me d ts0).wipe vs = .ok (g d) ts0) : compR vs put mc me ds ts = .ok (ds.filterMap g) ts0 := by
  have := (compR_scan (α := Unit) (put := put) (mc := mc) (me := me) (fun _ => ts0) (fun _ d => (g d, ())) (fun _ => True) ds () ts trivial e fun _ d hd _ => ⟨h d hd, trivial⟩).1
  rw [this]
  congr 1
  clear this h
  induction ds with
  | nil => rfl
  | cons d ds ih =>
    rw [scanD_cons]
    cases q : g d with
    | none => rw [List.filterMap_cons_none q, ← ih]
    | some y => rw [List.filterMap_cons_some q, ← ih]
theorem compR_filt {vs : List Nat} {put : D → List T → Option (List T)} {mc : M Bool} {me : M D} {ts ts0 : List T} {l : List Int} (P : Int → Bool) (e : wipeT ts vs = ts0)
    (h : ∀ x ∈ l, (cTurn put mc me (.int x) ts0).wipe vs = .ok (if P x = true then some (.int x) else none) ts0) : compR vs put mc me (nD l) ts = .ok (nD (l.filter P)) ts0 := by
  have k := compR_pure (ds := nD l) (fun d => match d with | .int x => if P x = true then some (.int x) else none | _ => none) e fun d hd => by
    unfold nD at hd
    obtain ⟨i, hi, rfl⟩ := List.mem_map.mp hd
    exact h i hi
  rw [k]
  congr 1
  clear h k
  induction l with
  | nil => rfl
  | cons x l ih =>
    rw [nD_cons]
    by_cases hx : P x = true
    · rw [List.filterMap_cons_some (b := .int x) (by dsimp only; rw [if_pos hx]), ih, List.filter_cons_of_pos hx, nD_cons]
    · rw [List.filterMap_cons_none (by dsimp only; rw [if_neg hx]), ih, List.filter_cons_of_neg hx]
theorem compR_map {vs : List Nat} {put : D → List T → Option (List T)} {mc : M Bool} {me : M D} {ts ts0 : List T} {α : Type} {l : List α} (i : α → D) (g : α → D) (e : wipeT ts vs = ts0)
    (h : ∀ x ∈ l, (cTurn put mc me (i x) ts0).wipe vs = .ok (some (g x)) ts0) : compR vs put mc me (l.map i) ts = .ok (l.map g) ts0 := by
  induction l generalizing ts with
  | nil => rw [List.map_nil, compR]; dsimp only; rw [e]; rfl
  | cons x l ih =>
    have k := compR_scan (α := Unit) (put := put) (mc := mc) (me := me) (vs := vs) (fun _ => ts0) (fun _ d => (some (g x), ())) (fun _ => True) [i x] () ts trivial e fun _ d hd _ => by
      rw [List.mem_singleton] at hd
      subst hd
      exact ⟨h x List.mem_cons_self, trivial⟩
    have k2 := h x List.mem_cons_self
    rw [List.map_cons, compR]; dsimp only; rw [e]
    unfold cTurn at k2
    cases q : put (i x) ts0 with
    | none => rw [q] at k2; cases k2
    | some ts1 =>
      simp only [q, putO_some] at k2 ⊢
      cases q1 : mc ts1 with
      | ok b ts2 =>
        simp only [q1, and_ok] at k2 ⊢
        by_cases hb : b = true
        · rw [if_pos hb] at k2
          rw [if_pos hb]
          cases q2 : me ts2 with
          | ok y ts3 =>
            simp only [q2, and_ok, wipe_ok] at k2 ⊢
            injection k2 with e1 e2
            rw [ih e2 fun z hz => h z (List.mem_cons_of_mem _ hz)]
            injection e1 with e1
            rw [e1]; rfl
          | ex c t => simp only [q2, and_ex] at k2; cases k2
          | bad => simp only [q2] at k2; cases k2
        · rw [if_neg hb] at k2; cases k2
      | ex c t => simp only [q1, and_ex] at k2; cases k2
      | bad => simp only [q1] at k2; cases k2
theorem compR_ints {α : Type} {vs : List Nat} {put : D → List T → Option (List T)} {mc : M Bool} {me : M D} (enc : α → List T) (f : α → Int × α) (P : Int → Prop) (I : α → Prop) :
    ∀ (ds : List D) (a : α) (ts : List T), I a → wipeT ts vs = enc a → (∀ a d, d ∈ ds → I a → (cTurn put mc me d (enc a)).wipe vs = .ok (some (.int (f a).1)) (enc (f a).2) ∧ I (f a).2 ∧ P (f a).1) →
      ∃ (l : List Int) (a' : α), compR vs put mc me ds ts = .ok (nD l) (enc a') ∧ l.length = ds.length ∧ (∀ x ∈ l, P x) ∧ I a' := fun ds a ts ha e h => by
  obtain ⟨k1, k2⟩ := compR_scan enc (fun a _ => (some (.int (f a).1), (f a).2)) I ds a ts ha e fun a d hd hI => ⟨(h a d hd hI).1, (h a d hd hI).2.1⟩
  have key : ∀ (ds' : List D) (a : α), (∀ d ∈ ds', d ∈ ds) → I a → ∃ l : List Int, (scanD (fun a (_ : D) => (some (D.int (f a).1), (f a).2)) a ds').1 = nD l ∧ l.length = ds'.length ∧ ∀ x ∈ l, P x := fun ds' => by
    induction ds' with
    | nil => intro a _ _; exact ⟨[], rfl, rfl, fun x hx => nomatch hx⟩
    | cons d ds' ih =>
      intro a hs hI
      obtain ⟨_, q1, q2⟩ := h a d (hs d List.mem_cons_self) hI
      obtain ⟨l, e1, e2, e3⟩ := ih (f a).2 (fun d hd => hs d (List.mem_cons_of_mem _ hd)) q1
      exact ⟨(f a).1 :: l, by rw [scanD_cons]; dsimp only; rw [e1, nD_cons], by rw [List.length_cons, List.length_cons, e2], fun x hx => by
        rcases List.mem_cons.mp hx with rfl | hx
        · exact q2
        · exact e3 x hx⟩
  obtain ⟨l, e1, e2, e3⟩ := key ds a (fun _ hd => hd) ha
  exact ⟨l, _, by rw [k1, e1], e2, e3, k2⟩
@[simp] theorem upto_length (a b) : (upto a b).length = (b - a).toNat := by unfold upto; simp
def putS (o : Option (List T)) (f : List T → RS) : RS := match o with
  | none => .bad
  | some ts1 => f ts1
@[simp] theorem putS_some (ts1) (f : List T → RS) : putS (some ts1) f = f ts1 := rfl
def RS.ct2 (r : RS) : RS := match r with
  | .ct ts => .nx ts
  | r => r
@[simp] theorem ct2_ct (ts) : RS.ct2 (.ct ts) = .nx ts := rfl
@[simp] theorem ct2_nx (ts) : RS.ct2 (.nx ts) = .nx ts := rfl
@[simp] theorem ct2_rt (t ts) : RS.ct2 (.rt t ts) = .rt t ts := rfl
@[simp] theorem ct2_bk (ts) : RS.ct2 (.bk ts) = .bk ts := rfl
@[simp] theorem ct2_ex (c ts) : RS.ct2 (.ex c ts) = .ex c ts := rfl
def lTurn (put : D → List T → Option (List T)) (body : S) (d : D) (ts : List T) : RS := putS (put d ts) fun ts1 => (body ts1).ct2
@[simp] theorem lTurn_ap (put body d ts) : lTurn put body d ts = putS (put d ts) fun ts1 => (body ts1).ct2 := rfl
@[simp] theorem loopS_nil (put body ts) : loopS put body [] ts = .nx ts := rfl
def RS.lp (r : RS) (n : S) : RS := match r with
  | .nx ts2 => n ts2
  | .bk ts2 => .nx ts2
  | .rt t ts2 => .rt t ts2
  | .ex c ts2 => .ex c ts2
  | _ => .bad
@[simp] theorem lp_nx (ts n) : RS.lp (.nx ts) n = n ts := rfl
@[simp] theorem lp_bk (ts n) : RS.lp (.bk ts) n = .nx ts := rfl
@[simp] theorem lp_rt (t ts n) : RS.lp (.rt t ts) n = .rt t ts := rfl
@[simp] theorem lp_ex (t ts n) : RS.lp (.ex t ts) n = .ex t ts := rfl
theorem loopS_cons (put body d ds ts) : loopS put body (d :: ds) ts = (lTurn put body d ts).lp (loopS put body ds) := by
  show (match put d ts with | none => RS.bad | some ts1 => match body ts1 with
      | .nx ts2 => loopS put body ds ts2
      | .ct ts2 => loopS put body ds ts2
      | .bk ts2 => .nx ts2
      | .rt t ts2 => .rt t ts2
      | .ex c ts2 => .ex c ts2
      | .bad => .bad) = (putS (put d ts) fun ts1 => (body ts1).ct2).lp _
  cases q0 : put d ts with
  | none => rfl
  | some ts1 =>
    show _ = ((body ts1).ct2).lp _
    cases q : body ts1 <;> simp only [q] <;> rfl
/-! for over an owned list, append, pop -/
def foT (j : Nat) (body : S) (ts : List T) : Option T → S
  | some (.l us) => loopOwn j body us
  | _ => fun _ => .bad
@[simp] theorem foT_l (j body ts us) : foT j body ts (some (.l us)) = loopOwn j body us := rfl
@[simp] theorem forOwn_ap (i j body ts) : forOwn i j body ts = foT j body ts ts[i]? (ts.set i .gone) := by
  unfold forOwn foT
  cases ts[i]? with
  | none => rfl
  | some t => cases t <;> rfl
@[simp] theorem loopOwn_nil (j body ts) : loopOwn j body [] ts = .nx ts := rfl
def isLO : Option T → Bool
  | some (.l _) => true
  | _ => false
@[simp] theorem isLO_l (x) : isLO (some (.l x)) = true := rfl
def apT (i : Nat) (t : T) (ts : List T) : Option T → R T
  | some (.l xs) => if xs.length < lim then .ok (.z .non) (ts.set i (.l (xs ++ [t]))) else .bad
  | _ => .bad
@[simp] theorem apT_l (i t ts xs) : apT i t ts (some (.l xs)) = if xs.length < lim then .ok (.z .non) (ts.set i (.l (xs ++ [t]))) else .bad := rfl
@[simp] theorem appM_ap (i m ts) : appM i m ts = if isLO ts[i]? = true then (m ts).and fun t ts1 => apT i t ts1 ts1[i]? else .bad := by
  unfold appM
  have e1 : isL i ts = isLO ts[i]? := by
    unfold isL isLO
    cases ts[i]? with
    | none => rfl
    | some t => cases t <;> rfl
  rw [e1]
  split
  · rw [bind_ap]
    congr 1
  · rfl
end Ar
/-! ArR: isinstance, equality of data, draws. -/
namespace Ar
open PySem PySem.Spec PyProof.Rows L2
theorem kb_non_bool : kitB "NoneType" "bool" = some false := by decide +kernel
@[simp] theorem isi_non_bool  : isi "bool" (.non) = some (.z (.bl false)) := by show (match kitB "NoneType" "bool" with | some b => some (T.z (.bl b)) | none => none) = _; rw [kb_non_bool]
theorem kb_non_int : kitB "NoneType" "int" = some false := by decide +kernel
@[simp] theorem isi_non_int  : isi "int" (.non) = some (.z (.bl false)) := by show (match kitB "NoneType" "int" with | some b => some (T.z (.bl b)) | none => none) = _; rw [kb_non_int]
theorem kb_non_str : kitB "NoneType" "str" = some false := by decide +kernel
@[simp] theorem isi_non_str  : isi "str" (.non) = some (.z (.bl false)) := by show (match kitB "NoneType" "str" with | some b => some (T.z (.bl b)) | none => none) = _; rw [kb_non_str]
theorem kb_non_list : kitB "NoneType" "list" = some false := by decide +kernel
@[simp] theorem isi_non_list  : isi "list" (.non) = some (.z (.bl false)) := by show (match kitB "NoneType" "list" with | some b => some (T.z (.bl b)) | none => none) = _; rw [kb_non_list]
theorem kb_non_tuple : kitB "NoneType" "tuple" = some false := by decide +kernel
@[simp] theorem isi_non_tuple  : isi "tuple" (.non) = some (.z (.bl false)) := by show (match kitB "NoneType" "tuple" with | some b => some (T.z (.bl b)) | none => none) = _; rw [kb_non_tuple]
theorem kb_non_dict : kitB "NoneType" "dict" = some false := by decide +kernel
@[simp] theorem isi_non_dict  : isi "dict" (.non) = some (.z (.bl false)) := by show (match kitB "NoneType" "dict" with | some b => some (T.z (.bl b)) | none => none) = _; rw [kb_non_dict]
@[simp] theorem isi2_non_list_tuple  : isi2 "list" "tuple" (.non) = some (.z (.bl false)) := by show (match kitB "NoneType" "list", kitB "NoneType" "tuple" with | some b, some c => some (T.z (.bl (b || c))) | _, _ => none) = _; rw [kb_non_list, kb_non_tuple]; rfl
theorem kb_bl_bool : kitB "bool" "bool" = some true := by decide +kernel
@[simp] theorem isi_bl_bool (b) : isi "bool" (.bl b) = some (.z (.bl true)) := by show (match kitB "bool" "bool" with | some b => some (T.z (.bl b)) | none => none) = _; rw [kb_bl_bool]
theorem kb_bl_int : kitB "bool" "int" = some true := by decide +kernel
@[simp] theorem isi_bl_int (b) : isi "int" (.bl b) = some (.z (.bl true)) := by show (match kitB "bool" "int" with | some b => some (T.z (.bl b)) | none => none) = _; rw [kb_bl_int]
theorem kb_bl_str : kitB "bool" "str" = some false := by decide +kernel
@[simp] theorem isi_bl_str (b) : isi "str" (.bl b) = some (.z (.bl false)) := by show (match kitB "bool" "str" with | some b => some (T.z (.bl b)) | none => none) = _; rw [kb_bl_str]
theorem kb_bl_list : kitB "bool" "list" = some false := by decide +kernel
@[simp] theorem isi_bl_list (b) : isi "list" (.bl b) = some (.z (.bl false)) := by show (match kitB "bool" "list" with | some b => some (T.z (.bl b)) | none => none) = _; rw [kb_bl_list]
theorem kb_bl_tuple : kitB "bool" "tuple" = some false := by decide +kernel
@[simp] theorem isi_bl_tuple (b) : isi "tuple" (.bl b) = some (.z (.bl false)) := by show (match kitB "bool" "tuple" with | some b => some (T.z (.bl b)) | none => none) = _; rw [kb_bl_tuple]
theorem kb_bl_dict : kitB "bool" "dict" = some false := by decide +kernel
@[simp] theorem isi_bl_dict (b) : isi "dict" (.bl b) = some (.z (.bl false)) := by show (match kitB "bool" "dict" with | some b => some (T.z (.bl b)) | none => none) = _; rw [kb_bl_dict]
@[simp] theorem isi2_bl_list_tuple (b) : isi2 "list" "tuple" (.bl b) = some (.z (.bl false)) := by show (match kitB "bool" "list", kitB "bool" "tuple" with | some b, some c => some (T.z (.bl (b || c))) | _, _ => none) = _; rw [kb_bl_list, kb_bl_tuple]; rfl
theorem kb_int_bool : kitB "int" "bool" = some false := by decide +kernel
@[simp] theorem isi_int_bool (b) : isi "bool" (.int b) = some (.z (.bl false)) := by show (match kitB "int" "bool" with | some b => some (T.z (.bl b)) | none => none) = _; rw [kb_int_bool]
theorem kb_int_int : kitB "int" "int" = some true := by decide +kernel
@[simp] theorem isi_int_int (b) : isi "int" (.int b) = some (.z (.bl true)) := by show (match kitB "int" "int" with | some b => some (T.z (.bl b)) | none => none) = _; rw [kb_int_int]
theorem kb_int_str : kitB "int" "str" = some false := by decide +kernel
@[simp] theorem isi_int_str (b) : isi "str" (.int b) = some (.z (.bl false)) := by show (match kitB "int" "str" with | some b => some (T.z (.bl b)) | none => none) = _; rw [kb_int_str]
theorem kb_int_list : kitB "int" "list" = some false := by decide +kernel
@[simp] theorem isi_int_list (b) : isi "list" (.int b) = some (.z (.bl false)) := by show (match kitB "int" "list" with | some b => some (T.z (.bl b)) | none => none) = _; rw [kb_int_list]
theorem kb_int_tuple : kitB "int" "tuple" = some false := by decide +kernel
@[simp] theorem isi_int_tuple (b) : isi "tuple" (.int b) = some (.z (.bl false)) := by show (match kitB "int" "tuple" with | some b => some (T.z (.bl b)) | none => none) = _; rw [kb_int_tuple]
theorem kb_int_dict : kitB "int" "dict" = some false := by decide +kernel
@[simp] theorem isi_int_dict (b) : isi "dict" (.int b) = some (.z (.bl false)) := by show (match kitB "int" "dict" with | some b => some (T.z (.bl b)) | none => none) = _; rw [kb_int_dict]
@[simp] theorem isi2_int_list_tuple (b) : isi2 "list" "tuple" (.int b) = some (.z (.bl false)) := by show (match kitB "int" "list", kitB "int" "tuple" with | some b, some c => some (T.z (.bl (b || c))) | _, _ => none) = _; rw [kb_int_list, kb_int_tuple]; rfl
theorem kb_str_bool : kitB "str" "bool" = some false := by decide +kernel
@[simp] theorem isi_str_bool (b) : isi "bool" (.str b) = some (.z (.bl false)) := by show (match kitB "str" "bool" with | some b => some (T.z (.bl b)) | none => none) = _; rw [kb_str_bool]
theorem kb_str_int : kitB "str" "int" = some false := by decide +kernel
@[simp] theorem isi_str_int (b) : isi "int" (.str b) = some (.z (.bl false)) := by show (match kitB "str" "int" with | some b => some (T.z (.bl b)) | none => none) = _; rw [kb_str_int]
theorem kb_str_str : kitB "str" "str" = some true := by decide +kernel
@[simp] theorem isi_str_str (b) : isi "str" (.str b) = some (.z (.bl true)) := by show (match kitB "str" "str" with | some b => some (T.z (.bl b)) | none => none) = _; rw [kb_str_str]
theorem kb_str_list : kitB "str" "list" = some false := by decide +kernel
@[simp] theorem isi_str_list (b) : isi "list" (.str b) = some (.z (.bl false)) := by show (match kitB "str" "list" with | some b => some (T.z (.bl b)) | none => none) = _; rw [kb_str_list]
theorem kb_str_tuple : kitB "str" "tuple" = some false := by decide +kernel
@[simp] theorem isi_str_tuple (b) : isi "tuple" (.str b) = some (.z (.bl false)) := by show (match kitB "str" "tuple" with | some b => some (T.z (.bl b)) | none => none) = _; rw [kb_str_tuple]
theorem kb_str_dict : kitB "str" "dict" = some false := by decide +kernel
@[simp] theorem isi_str_dict (b) : isi "dict" (.str b) = some (.z (.bl false)) := by show (match kitB "str" "dict" with | some b => some (T.z (.bl b)) | none => none) = _; rw [kb_str_dict]
@[simp] theorem isi2_str_list_tuple (b) : isi2 "list" "tuple" (.str b) = some (.z (.bl false)) := by show (match kitB "str" "list", kitB "str" "tuple" with | some b, some c => some (T.z (.bl (b || c))) | _, _ => none) = _; rw [kb_str_list, kb_str_tuple]; rfl
theorem kb_lst_bool : kitB "list" "bool" = some false := by decide +kernel
@[simp] theorem isi_lst_bool (b) : isi "bool" (.lst b) = some (.z (.bl false)) := by show (match kitB "list" "bool" with | some b => some (T.z (.bl b)) | none => none) = _; rw [kb_lst_bool]
theorem kb_lst_int : kitB "list" "int" = some false := by decide +kernel
@[simp] theorem isi_lst_int (b) : isi "int" (.lst b) = some (.z (.bl false)) := by show (match kitB "list" "int" with | some b => some (T.z (.bl b)) | none => none) = _; rw [kb_lst_int]
theorem kb_lst_str : kitB "list" "str" = some false := by decide +kernel
@[simp] theorem isi_lst_str (b) : isi "str" (.lst b) = some (.z (.bl false)) := by show (match kitB "list" "str" with | some b => some (T.z (.bl b)) | none => none) = _; rw [kb_lst_str]
theorem kb_lst_list : kitB "list" "list" = some true := by decide +kernel
@[simp] theorem isi_lst_list (b) : isi "list" (.lst b) = some (.z (.bl true)) := by show (match kitB "list" "list" with | some b => some (T.z (.bl b)) | none => none) = _; rw [kb_lst_list]
theorem kb_lst_tuple : kitB "list" "tuple" = some false := by decide +kernel
@[simp] theorem isi_lst_tuple (b) : isi "tuple" (.lst b) = some (.z (.bl false)) := by show (match kitB "list" "tuple" with | some b => some (T.z (.bl b)) | none => none) = _; rw [kb_lst_tuple]
theorem kb_lst_dict : kitB "list" "dict" = some false := by decide +kernel
@[simp] theorem isi_lst_dict (b) : isi "dict" (.lst b) = some (.z (.bl false)) := by show (match kitB "list" "dict" with | some b => some (T.z (.bl b)) | none => none) = _; rw [kb_lst_dict]
@[simp] theorem isi2_lst_list_tuple (b) : isi2 "list" "tuple" (.lst b) = some (.z (.bl true)) := by show (match kitB "list" "list", kitB "list" "tuple" with | some b, some c => some (T.z (.bl (b || c))) | _, _ => none) = _; rw [kb_lst_list, kb_lst_tuple]; rfl
theorem kb_tup_bool : kitB "tuple" "bool" = some false := by decide +kernel
@[simp] theorem isi_tup_bool (b) : isi "bool" (.tup b) = some (.z (.bl false)) := by show (match kitB "tuple" "bool" with | some b => some (T.z (.bl b)) | none => none) = _; rw [kb_tup_bool]
theorem kb_tup_int : kitB "tuple" "int" = some false := by decide +kernel
@[simp] theorem isi_tup_int (b) : isi "int" (.tup b) = some (.z (.bl false)) := by show (match kitB "tuple" "int" with | some b => some (T.z (.bl b)) | none => none) = _; rw [kb_tup_int]
theorem kb_tup_str : kitB "tuple" "str" = some false := by decide +kernel
@[simp] theorem isi_tup_str (b) : isi "str" (.tup b) = some (.z (.bl false)) := by show (match kitB "tuple" "str" with | some b => some (T.z (.bl b)) | none => none) = _; rw [kb_tup_str]
theorem kb_tup_list : kitB "tuple" "list" = some false := by decide +kernel
@[simp] theorem isi_tup_list (b) : isi "list" (.tup b) = some (.z (.bl false)) := by show (match kitB "tuple" "list" with | some b => some (T.z (.bl b)) | none => none) = _; rw [kb_tup_list]
theorem kb_tup_tuple : kitB "tuple" "tuple" = some true := by decide +kernel
@[simp] theorem isi_tup_tuple (b) : isi "tuple" (.tup b) = some (.z (.bl true)) := by show (match kitB "tuple" "tuple" with | some b => some (T.z (.bl b)) | none => none) = _; rw [kb_tup_tuple]
theorem kb_tup_dict : kitB "tuple" "dict" = some false := by decide +kernel
@[simp] theorem isi_tup_dict (b) : isi "dict" (.tup b) = some (.z (.bl false)) := by show (match kitB "tuple" "dict" with | some b => some (T.z (.bl b)) | none => none) = _; rw [kb_tup_dict]
@[simp] theorem isi2_tup_list_tuple (b) : isi2 "list" "tuple" (.tup b) = some (.z (.bl true)) := by show (match kitB "tuple" "list", kitB "tuple" "tuple" with | some b, some c => some (T.z (.bl (b || c))) | _, _ => none) = _; rw [kb_tup_list, kb_tup_tuple]; rfl
theorem kb_dk_bool : kitB "dict" "bool" = some false := by decide +kernel
@[simp] theorem isi_dk_bool (b) : isi "bool" (.dk b) = some (.z (.bl false)) := by show (match kitB "dict" "bool" with | some b => some (T.z (.bl b)) | none => none) = _; rw [kb_dk_bool]
theorem kb_dk_int : kitB "dict" "int" = some false := by decide +kernel
@[simp] theorem isi_dk_int (b) : isi "int" (.dk b) = some (.z (.bl false)) := by show (match kitB "dict" "int" with | some b => some (T.z (.bl b)) | none => none) = _; rw [kb_dk_int]
theorem kb_dk_str : kitB "dict" "str" = some false := by decide +kernel
@[simp] theorem isi_dk_str (b) : isi "str" (.dk b) = some (.z (.bl false)) := by show (match kitB "dict" "str" with | some b => some (T.z (.bl b)) | none => none) = _; rw [kb_dk_str]
theorem kb_dk_list : kitB "dict" "list" = some false := by decide +kernel
@[simp] theorem isi_dk_list (b) : isi "list" (.dk b) = some (.z (.bl false)) := by show (match kitB "dict" "list" with | some b => some (T.z (.bl b)) | none => none) = _; rw [kb_dk_list]
theorem kb_dk_tuple : kitB "dict" "tuple" = some false := by decide +kernel
@[simp] theorem isi_dk_tuple (b) : isi "tuple" (.dk b) = some (.z (.bl false)) := by show (match kitB "dict" "tuple" with | some b => some (T.z (.bl b)) | none => none) = _; rw [kb_dk_tuple]
theorem kb_dk_dict : kitB "dict" "dict" = some true := by decide +kernel
@[simp] theorem isi_dk_dict (b) : isi "dict" (.dk b) = some (.z (.bl true)) := by show (match kitB "dict" "dict" with | some b => some (T.z (.bl b)) | none => none) = _; rw [kb_dk_dict]
@[simp] theorem isi2_dk_list_tuple (b) : isi2 "list" "tuple" (.dk b) = some (.z (.bl false)) := by show (match kitB "dict" "list", kitB "dict" "tuple" with | some b, some c => some (T.z (.bl (b || c))) | _, _ => none) = _; rw [kb_dk_list, kb_dk_tuple]; rfl
/-! equality -/
mutual
def okd : Nat → D → Bool
  | _, .non => true
  | _, .bl _ => true
  | _, .int _ => true
  | _, .str s => PyData.strOk s
  | k + 1, .lst l => okds k l
  | k + 1, .tup l => okds k l
  | _, _ => false
def okds : Nat → List D → Bool
  | _, [] => true
  | k, d :: ds => okd k d && okds k ds
end
theorem okds_iff {k : Nat} : ∀ {l : List D}, okds k l = true ↔ ∀ d ∈ l, okd k d = true
  | [] => by simp [okds]
  | d :: ds => by rw [okds, Bool.and_eq_true, okds_iff (l := ds)]; simp
mutual
theorem okd_py : ∀ {k : Nat} {d : D}, okd k d = true → ∃ p, D.py d = some p ∧ p.canLay0 = true ∧ p.depth ≤ k
  | k, .non, _ => ⟨_, rfl, rfl, Nat.zero_le _⟩
  | k, .bl _, _ => ⟨_, rfl, rfl, Nat.zero_le _⟩
  | k, .int _, _ => ⟨_, rfl, rfl, Nat.zero_le _⟩
  | k, .str s, h => ⟨.str s, rfl, by rw [okd] at h; rw [PyData.canLay0]; exact h, Nat.zero_le _⟩
  | k + 1, .lst l, h => by
    rw [okd] at h
    obtain ⟨ps, e, c, dd⟩ := okds_py h
    exact ⟨.list ps, by rw [D.py, e], by rw [PyData.canLay0]; exact c, by rw [PyData.depth]; omega⟩
  | k + 1, .tup l, h => by
    rw [okd] at h
    obtain ⟨ps, e, c, dd⟩ := okds_py h
    exact ⟨.tuple ps, by rw [D.py, e], by rw [PyData.canLay0]; exact c, by rw [PyData.depth]; omega⟩
  | 0, .lst _, h => by rw [okd] at h <;> first | cases h | (intros; simp_all)
  | 0, .tup _, h => by rw [okd] at h <;> first | cases h | (intros; simp_all)
  | k, .dk _, h => by cases k <;> (rw [okd] at h <;> first | cases h | (intros; simp_all))
  | k, .dt _, h => by cases k <;> (rw [okd] at h <;> first | cases h | (intros; simp_all))
  | k, .st _, h => by cases k <;> (rw [okd] at h <;> first | cases h | (intros; simp_all))
  | k, .scr _, h => by cases k <;> (rw [okd] at h <;> first | cases h | (intros; simp_all))
  | k, .fn _, h => by cases k <;> (rw [okd] at h <;> first | cases h | (intros; simp_all))
theorem okds_py : ∀ {k : Nat} {l : List D}, okds k l = true → ∃ p, D.pys l = some p ∧ PyData.canLayAll0 p = true ∧ PyData.depthAll p ≤ k
  | k, [], _ => ⟨[], rfl, rfl, Nat.zero_le _⟩
  | k, d :: ds, h => by
    rw [okds, Bool.and_eq_true] at h
    obtain ⟨p, e, c, dd⟩ := okd_py h.1
    obtain ⟨ps, e', c', dd'⟩ := okds_py h.2
    exact ⟨p :: ps, by rw [D.pys, e, e'], by rw [PyData.canLayAll0, c, c']; rfl, by rw [PyData.depthAll]; omega⟩
end
theorem okq_of {k : Nat} {d : D} (h : okd k d = true) (hk : k ≤ 64) : okq d = true := by
  obtain ⟨p, e, c, dd⟩ := okd_py h
  unfold okq
  rw [e]
  show (p.canLay0 && decide (p.depth ≤ 64)) = true
  rw [c, Bool.true_and]
  exact decide_eq_true (by omega)
mutual
theorem eqv_refl : ∀ p : PyData, p.canLay0 = true → PyData.eqv p p = true
  | .none, _ => by rw [PyData.eqv]
  | .bool b, _ => by rw [PyData.eqv]; simp
  | .int b, _ => by rw [PyData.eqv]; simp
  | .str b, _ => by rw [PyData.eqv]; simp
  | .list b, h => by rw [PyData.eqv]; exact eqvAll_refl b (by rw [PyData.canLay0] at h; exact h)
  | .tuple b, h => by rw [PyData.eqv]; exact eqvAll_refl b (by rw [PyData.canLay0] at h; exact h)
  | .dict b, h => by rw [PyData.canLay0] at h; cases h
theorem eqvAll_refl : ∀ p : List PyData, PyData.canLayAll0 p = true → PyData.eqvAll p p = true
  | [], _ => by rw [PyData.eqvAll]
  | p :: ps, h => by
    rw [PyData.canLayAll0, Bool.and_eq_true] at h
    rw [PyData.eqvAll, eqv_refl p h.1, eqvAll_refl ps h.2]; rfl
end
theorem eqd_refl {k : Nat} {d : D} (h : okd k d = true) : eqd d d = true := by
  obtain ⟨p, e, c, dd⟩ := okd_py h
  unfold eqd pyD
  rw [e]
  exact eqv_refl p c
theorem oEq_refl {k : Nat} {d : D} (h : okd k d = true) (hk : k ≤ 64) : oEq d d = some (.z (.bl true)) := by
  unfold oEq
  rw [if_pos ⟨okq_of h hk, okq_of h hk⟩, eqd_refl h]
theorem okq_int (i) : okq (.int i) = true := okq_of (k := 0) rfl (by omega)
theorem okq_bl (i) : okq (.bl i) = true := okq_of (k := 0) rfl (by omega)
theorem beq_int (i j : Int) : (i == j) = decide (i = j) := by by_cases h : i = j <;> simp [h]
@[simp] theorem oEq_int (i j) : oEq (.int i) (.int j) = some (.z (.bl (decide (i = j)))) := by
  unfold oEq
  rw [if_pos ⟨okq_int i, okq_int j⟩]
  show some (T.z (.bl (PyData.eqv (.int i) (.int j)))) = _
  rw [PyData.eqv, beq_int]
@[simp] theorem oNe_int (i j) : oNe (.int i) (.int j) = some (.z (.bl (!decide (i = j)))) := by
  unfold oNe
  rw [if_pos ⟨okq_int i, okq_int j⟩]
  show some (T.z (.bl (!PyData.eqv (.int i) (.int j)))) = _
  rw [PyData.eqv, beq_int]
@[simp] theorem oEq_bl (i j) : oEq (.bl i) (.bl j) = some (.z (.bl (i == j))) := by
  unfold oEq
  rw [if_pos ⟨okq_bl i, okq_bl j⟩]
  show some (T.z (.bl (PyData.eqv (.bool i) (.bool j)))) = _
  rw [PyData.eqv]
@[simp] theorem oNe_bl (i j) : oNe (.bl i) (.bl j) = some (.z (.bl (!(i == j)))) := by
  unfold oNe
  rw [if_pos ⟨okq_bl i, okq_bl j⟩]
  show some (T.z (.bl (!PyData.eqv (.bool i) (.bool j)))) = _
  rw [PyData.eqv]
@[simp] theorem okd_nD (k l) : okds k (nD l) = true := by
  rw [okds_iff]
  intro d hd
  unfold nD at hd
  obtain ⟨i, _, rfl⟩ := List.mem_map.mp hd
  cases k <;> rfl
@[simp] theorem okd_int (k i) : okd k (.int i) = true := by cases k <;> rfl
@[simp] theorem okd_bl (k i) : okd k (.bl i) = true := by cases k <;> rfl
@[simp] theorem okd_non (k) : okd k .non = true := by cases k <;> rfl
@[simp] theorem okd_lst (k l) : okd (k + 1) (.lst l) = okds k l := rfl
@[simp] theorem okd_tup (k l) : okd (k + 1) (.tup l) = okds k l := rfl
@[simp] theorem okds_nil (k) : okds k [] = true := rfl
@[simp] theorem okds_cons (k d ds) : okds k (d :: ds) = (okd k d && okds k ds) := rfl
/-! `in` over a list of numbers -/
theorem flat_nD (l : List Int) : (nD l).all flatD = true := by
  rw [List.all_eq_true]
  intro d hd
  unfold nD at hd
  obtain ⟨i, _, rfl⟩ := List.mem_map.mp hd
  rfl
theorem any_nD (l : List Int) (i : Int) : ((nD l).any fun z => eqf z (.int i)) = decide (i ∈ l) := by
  induction l with
  | nil => rfl
  | cons a l ih =>
    show (eqf (.int a) (.int i) || (nD l).any fun z => eqf z (.int i)) = _
    rw [ih]
    show ((a == i) || decide (i ∈ l)) = _
    rw [beq_int]
    by_cases h : a = i
    · subst h; simp
    · have : ¬ i = a := fun e => h e.symm
      simp [h, this]
@[simp] theorem oIn_nD (i l) : oIn (.int i) (.lst (nD l)) = some (.z (.bl (decide (i ∈ l)))) := by
  unfold oIn inD
  dsimp only
  rw [if_pos ⟨rfl, flat_nD l⟩, any_nD]
@[simp] theorem oIn_nDt (i l) : oIn (.int i) (.tup (nD l)) = some (.z (.bl (decide (i ∈ l)))) := by
  unfold oIn inD
  dsimp only
  rw [if_pos ⟨rfl, flat_nD l⟩, any_nD]
@[simp] theorem oNotIn_nDt (i l) : oNotIn (.int i) (.tup (nD l)) = some (.z (.bl (!decide (i ∈ l)))) := by
  unfold oNotIn inD
  dsimp only
  rw [if_pos ⟨rfl, flat_nD l⟩, any_nD]
@[simp] theorem oNotIn_nD (i l) : oNotIn (.int i) (.lst (nD l)) = some (.z (.bl (!decide (i ∈ l)))) := by
  unfold oNotIn inD
  dsimp only
  rw [if_pos ⟨rfl, flat_nD l⟩, any_nD]
/-! draws -/
structure Dr where
  cells : List Int
  at_ : Nat
  got : Int
  seed : Int
def drL (d : Dr) : List T := [.l (nT d.cells), .z (.int d.at_), .z (.int d.got), .z (.int d.seed)]
def Dr.step (d : Dr) (m : Int) : Dr :=
  if d.got < m ∧ d.at_ < d.cells.length then
    let c := d.cells.getD d.at_ 0
    if (1000000000000000000 : Int) ≤ (if c < 0 then -c else c) then ⟨d.cells, d.at_ + 1, (if c < 0 then -c else c), d.seed⟩
    else ⟨d.cells, d.at_ + 1, 0, (d.seed * 48271 + c % 2147483629 * 69621 + 12345) % 2147483647⟩
  else d
def Dr.take (d : Dr) (m : Int) : Int × Dr :=
  let e := d.step m
  if m ≤ e.got then (e.got % m, ⟨e.cells, e.at_, e.got / m, e.seed⟩)
  else (((e.seed * 16807 + 2531011) % 2147483647) / 64 % m, ⟨e.cells, e.at_, e.got, (e.seed * 16807 + 2531011) % 2147483647⟩)
theorem take_lo (d : Dr) {m : Int} (h : 0 < m) : 0 ≤ (d.take m).1 := by
  unfold Dr.take
  dsimp only
  split
  · exact Int.emod_nonneg _ (by omega)
  · exact Int.emod_nonneg _ (by omega)
theorem take_hi (d : Dr) {m : Int} (h : 0 < m) : (d.take m).1 < m := by
  unfold Dr.take
  dsimp only
  split
  · exact Int.emod_lt_of_pos _ h
  · exact Int.emod_lt_of_pos _ h
theorem at3 {α : Type} (a b c : α) {r : Int} (h0 : 0 ≤ r) (h1 : r < 3) : atI [a, b, c] r = some a ∨ atI [a, b, c] r = some b ∨ atI [a, b, c] r = some c := by
  have : r = 0 ∨ r = 1 ∨ r = 2 := by omega
  rcases this with rfl | rfl | rfl <;> simp
theorem small_48271 : small 48271 := by decide
theorem small_69621 : small 69621 := by decide
theorem small_16807 : small 16807 := by decide
theorem small_10 : small 10 := by decide
@[simp] theorem lt_bigN {n : Nat} (h : n < 1000000000000000000000000000000) : n < bigN := by
  have : (1000000000000000000000000000000 : Nat) < bigN := by decide +kernel
  omega
theorem natAbs_big {m : Int} (h1 : 0 < m) (h2 : m < 1000000000000000000000000000000) : m.natAbs < bigN := by
  have : (1000000000000000000000000000000 : Int).natAbs < bigN := by decide +kernel
  omega
def beginD (ns : List Int) : Dr := ⟨ns.take 63, 0, 0, 17⟩
def okm : Nat → D → Bool
  | _, .non => true
  | _, .bl _ => true
  | _, .int _ => true
  | _, .str s => PyData.strOk s
  | k + 1, .lst l => decide (l.length ≤ 1000000) && l.all (okm k)
  | k + 1, .tup l => decide (l.length ≤ 1000000) && l.all (okm k)
  | _, _ => false
theorem zipD_self (l : List D) : zipD l l = l.map fun d => D.tup [d, d] := by
  induction l with
  | nil => rfl
  | cons a l ih => rw [zipD, ih]; rfl
theorem blsD_rep (n : Nat) : blsD (List.replicate n (.bl true)) = some (List.replicate n true) := by
  induction n with
  | zero => rfl
  | succ n ih => rw [List.replicate_succ, blsD, ih]; rfl
theorem oAll_rep (n : Nat) : oAll (.lst (List.replicate n (.bl true))) = some (.z (.bl true)) := by
  show (match blsD (List.replicate n (.bl true)) with | some ns => some (T.z (.bl (ns.all id))) | none => none) = _
  rw [blsD_rep]
  simp
@[simp] theorem fzs_rep (n : Nat) (d : D) : T.fzs (List.replicate n (T.z d)) = some (List.replicate n d) := by
  have : List.replicate n (T.z d) = (List.replicate n d).map T.z := by simp
  rw [this, fzs_z]
@[simp] theorem okm_nD (k : Nat) (l : List Int) : (nD l).all (okm k) = true := by
  rw [List.all_eq_true]
  intro d hd
  unfold nD at hd
  obtain ⟨i, _, rfl⟩ := List.mem_map.mp hd
  cases k <;> rfl
@[simp] theorem okm_int (k i) : okm k (.int i) = true := by cases k <;> rfl
@[simp] theorem okm_bl (k i) : okm k (.bl i) = true := by cases k <;> rfl
@[simp] theorem okm_non (k) : okm k .non = true := by cases k <;> rfl
@[simp] theorem okm_lst (k l) : okm (k + 1) (.lst l) = (decide (l.length ≤ 1000000) && l.all (okm k)) := rfl
@[simp] theorem okm_tup (k l) : okm (k + 1) (.tup l) = (decide (l.length ≤ 1000000) && l.all (okm k)) := rfl
end Ar
/-! ArT: more rules: what is not reached, chained comparisons, list of a range, backwards slices, clear, extend, constants of the module. -/
namespace Ar
open PySem PySem.Spec PyProof.Rows L2
section
variable {X : Cx} {W : WX} {bs : List Nat} {st : Stmt} {e a b c : Expr} {pos p : Pos}
/-- a statement, an expression that is not reached -/
def badS : S := fun _ => .bad
theorem ps_badS : PS X st (tS (gx X) W bs badS) := ⟨fun pins s σ H D I ⟨F, Mm, G, ts, sa, k⟩ => k.elim⟩
@[simp] theorem badS_ap (ts) : badS ts = .bad := rfl
/-! a op b op c -/
def chM (f g : D → D → Option T) (ma mb mc : M D) : M T := ma >>= fun x => mb >>= fun y => opt (f x y) >>= fun t => asB t >>= fun k => if k = true then (mc >>= fun z => opt (g y z)) else M.ret (.z (.bl false))
def chB (f g : D → D → Option T) (ma mb mc : M D) : M Bool := chM f g ma mb mc >>= asB
@[simp] theorem chM_ap (f g ma mb mc ts) : chM f g ma mb mc ts = (ma ts).and fun x ts1 => (mb ts1).and fun y ts2 => (opt (f x y) ts2).and fun t ts3 => (asB t ts3).and fun k ts4 => if k = true then (mc ts4).and fun z ts5 => opt (g y z) ts5 else .ok (.z (.bl false)) ts4 := by
  unfold chM
  rw [bind_ap]; congr 1; funext x ts1
  rw [bind_ap]; congr 1; funext y ts2
  rw [bind_ap]; congr 1; funext t ts3
  rw [bind_ap]; congr 1; funext k ts4
  cases k
  · rfl
  · show (mc >>= fun z => opt (g y z)) ts4 = _
    rw [bind_ap]; rfl
@[simp] theorem chB_ap (f g ma mb mc ts) : chB f g ma mb mc ts = (chM f g ma mb mc ts).and asB := by unfold chB; rw [bind_ap]
/-! list(range(..)) -/
instance (a b : Int) : Decidable (RgOk a b) := by unfold RgOk; infer_instance
def oLR (i j : Int) : Option T := if RgOk i j then some (.l ((upto i j).map .z)) else none
def oLR2 (d e : D) : Option T := match d, e with
  | .int i, .int j => oLR i j
  | _, _ => none
def oLR1 (e : D) : Option T := match e with
  | .int j => oLR 0 j
  | _ => none
theorem rgV_rp {g : Gx} {F : Hp} {i j : Int} : RpAll g F (rgV i j) (upto i j) := by
  unfold rgV upto
  generalize List.range (j - i).toNat = l
  induction l with
  | nil => exact .nil
  | cons x l ih => exact .cons (.int _) ih
theorem oLR_out {g : Gx} {F H : Hp} {i j : Int} {t : T} {Q : VK} (e : oLR i j = some t) (h : Out g F H t Q) : RgOk i j ∧ ∀ q, H q = none → Q (.ref q) (upd H q (.lst (rgV i j))) := by
  unfold oLR at e
  split at e
  · rename_i hr
    cases e
    exact ⟨hr, fun q hq => h.new rgV_rp q hq⟩
  · cases e
theorem e_listRg2 {p2 pos2 : Pos} {ma mb : M D} (hc : X.calm = true) (hm : X.mg "list" = none) (hg : Gl X "list") (hm2 : X.mg "range" = none) (hg2 : Gl X "range") (ha : PE X a (tZ (gx X) W ma)) (hb : PE X b (tV (gx X) W mb)) (n : nst a = true) (n2 : nst b = true) :
    PE X (.Call (.Name "list" p) [.Call (.Name "range" p2) [a, b] [] pos2] [] pos) (tD (gx X) W (binZ oLR2 ma mb)) :=
  pe_imp (pe_listRg hc hg hm (prg_2 hg2 hm2 ha hb (star_of n _ _) (star_of n2 _ _) (by rw [star_of n2]; rfl))) fun σ H Q ⟨F, Mm, G, ts, st, k⟩ => by
    unfold binZ at k
    refine tZ_then (K := KD (gx X) W F G σ Q) st id (fun _ _ z => z) k fun x ts1 _ k1 F1 M1 H1 v1 s1 r1 st1 => ?_
    refine tV_then (K := KD (gx X) W F1 G σ Q) st1 id (fun _ _ z => z) (KD.mono s1 k1) fun y ts2 _ k2 F2 M2 H2 v2 s2 r2 st2 => ?_
    obtain ⟨t, q, out⟩ := KD.opt st2 (KD.mono s2 k2)
    unfold oLR2 at q
    split at q
    · cases r1; cases r2.int
      exact ⟨_, _, rfl, rfl, oLR_out q out⟩
    · cases q
/-! xs[::-1] -/
def oRev : D → Option T
  | .lst l => some (.l (l.reverse.map .z))
  | _ => none
/-! constants of the module -/
theorem pe_gstr {x : Str} {i : Str} (hm : ∃ t, X.mg x = some (.str i t)) (hg : Gl X x) (hd : (x == ("__debug__" : Str)) = false) : PE X (.Name x pos) (tC (.str i)) := by
  obtain ⟨t, hm⟩ := hm
  exact pe_glob hg hm ⟨t, rfl⟩ hd
end
/-! clear, extend -/
section
variable {X : Cx} {W : WX} {e : Expr} {x : Str} {p apos cpos : Pos} {i : Nat}
def clrM (i : Nat) : M T := fun ts => if isL i ts = true then .ok (.z .non) (ts.set i (.l [])) else .bad
@[simp] theorem clrM_ap (i ts) : clrM i ts = if isLO ts[i]? = true then .ok (.z .non) (ts.set i (.l [])) else .bad := by
  unfold clrM
  have e1 : isL i ts = isLO ts[i]? := by
    unfold isL isLO
    cases ts[i]? with
    | none => rfl
    | some t => cases t <;> rfl
  rw [e1]
def poD (i : Nat) (j : Int) (ts : List T) : Option T → R T
  | some (.l xs) => if big62 j then (match ixN xs.length j with
        | some k => match xs[k]? with
          | some t => .ok t (ts.set i (.l (xs.eraseIdx k)))
          | none => .bad
        | none => .bad) else .bad
  | _ => .bad
def poT (i : Nat) (ts : List T) : D → R T
  | .int j => poD i j ts ts[i]?
  | _ => .bad
@[simp] theorem poT_int (i ts j) : poT i ts (.int j) = poD i j ts ts[i]? := rfl
theorem poD_l {i : Nat} {j : Int} {ts xs : List T} {t : T} (h0 : 0 ≤ j) (h1 : j < 4611686018427387904) (h : xs[j.toNat]? = some t) : poD i j ts (some (.l xs)) = .ok t (ts.set i (.l (xs.eraseIdx j.toNat))) := by
  have hl : j.toNat < xs.length := (List.getElem?_eq_some_iff.mp h).1
  have e : ixN xs.length j = some j.toNat := by unfold ixN; rw [if_pos h0, if_pos (by omega)]
  show (if big62 j then (match ixN xs.length j with
        | some k => match xs[k]? with
          | some t => R.ok t (ts.set i (.l (xs.eraseIdx k)))
          | none => .bad
        | none => .bad) else .bad) = _
  rw [if_pos ⟨by omega, by omega⟩, e]
  dsimp only
  rw [h]
@[simp] theorem popM_ap (i m ts) : popM i m ts = if isLO ts[i]? = true then (m ts).and fun d ts1 => poT i ts1 d else .bad := by
  unfold popM
  have e1 : isL i ts = isLO ts[i]? := by
    unfold isL isLO
    cases ts[i]? with
    | none => rfl
    | some t => cases t <;> rfl
  rw [e1]
  split
  · rw [bind_ap]
    congr 1
  · rfl
end
/-! values -/
def uI (lo hi : Int) : List Int := (List.range (hi - lo).toNat).map fun (k : Nat) => lo + k
@[simp] theorem upto_nD (lo hi) : upto lo hi = nD (uI lo hi) := by unfold upto uI nD; rw [List.map_map]; rfl
@[simp] theorem uI_length (lo hi) : (uI lo hi).length = (hi - lo).toNat := by unfold uI; simp
@[simp] theorem oLR2_int (i j) : oLR2 (.int i) (.int j) = if RgOk i j then some (.l (nT (uI i j))) else none := by
  show oLR i j = _
  unfold oLR
  rw [upto_nD, nD_nT]
@[simp] theorem oLR1_int (j) : oLR1 (.int j) = if RgOk 0 j then some (.l (nT (uI 0 j))) else none := by
  show oLR 0 j = _
  unfold oLR
  rw [upto_nD, nD_nT]
@[simp] theorem oRev_nD (l) : oRev (.lst (nD l)) = some (.l (nT l.reverse)) := by
  show some (T.l ((nD l).reverse.map .z)) = _
  unfold nD nT
  rw [← List.map_reverse, List.map_map]; rfl
@[simp] theorem nT_erase (l : List Int) (k) : (nT l).eraseIdx k = nT (l.eraseIdx k) := by
  unfold nT
  induction l generalizing k with
  | nil => rfl
  | cons x l ih => cases k with
    | zero => rfl
    | succ k => show T.z (.int x) :: (List.map (fun i => T.z (D.int i)) l).eraseIdx k = _; rw [ih]; rfl
theorem perm_erase : ∀ (l : List Int) (i : Nat) (h : i < l.length), (l[i] :: l.eraseIdx i).Perm l
  | [], _, h => absurd h (by simp)
  | x :: l, 0, _ => List.Perm.refl _
  | x :: l, i + 1, h => by
    have hi : i < l.length := by simpa using h
    show (l[i] :: x :: l.eraseIdx i).Perm (x :: l)
    exact (List.Perm.swap _ _ _).trans (List.Perm.cons _ (perm_erase l i hi))
theorem rise_nodup (a : List Int) : (isort (ddp a)).Nodup := (isort_perm (ddp a)).nodup_iff.mpr (ddp_nodup a)
theorem pys_nD (l : List Int) : D.pys (nD l) = some (l.map PyData.int) := by
  induction l with
  | nil => rfl
  | cons x l ih => rw [nD_cons, D.pys, ih]; rfl
theorem eqvAll_int : ∀ a b : List Int, PyData.eqvAll (a.map .int) (b.map .int) = decide (a = b)
  | [], [] => by simp [PyData.eqvAll]
  | [], y :: b => by simp [PyData.eqvAll]
  | x :: a, [] => by simp [PyData.eqvAll]
  | x :: a, y :: b => by
    rw [List.map_cons, List.map_cons, PyData.eqvAll, PyData.eqv, eqvAll_int a b, beq_int]
    by_cases h : x = y <;> by_cases h2 : a = b <;> simp [h, h2]
theorem eqd_nD (a b : List Int) : eqd (.lst (nD a)) (.lst (nD b)) = decide (a = b) := by
  have e : ∀ l, pyD (.lst (nD l)) = .list (l.map PyData.int) := fun l => by
    unfold pyD
    rw [D.py, pys_nD]
  unfold eqd
  rw [e, e, PyData.eqv, eqvAll_int]
theorem okq_nD (a : List Int) : okq (.lst (nD a)) = true := okq_of (k := 1) (by simp) (by omega)
@[simp] theorem oEq_nD (a b : List Int) : oEq (.lst (nD a)) (.lst (nD b)) = some (.z (.bl (decide (a = b)))) := by
  unfold oEq
  rw [if_pos ⟨okq_nD a, okq_nD b⟩, eqd_nD]
@[simp] theorem oNe_nD (a b : List Int) : oNe (.lst (nD a)) (.lst (nD b)) = some (.z (.bl (!decide (a = b)))) := by
  unfold oNe
  rw [if_pos ⟨okq_nD a, okq_nD b⟩, eqd_nD]
@[simp] theorem oNe_nD_nil (a : List Int) : oNe (.lst (nD a)) (.lst []) = some (.z (.bl (!decide (a = [])))) := oNe_nD a []
@[simp] theorem oEq_nD_nil (a : List Int) : oEq (.lst (nD a)) (.lst []) = some (.z (.bl (decide (a = [])))) := oEq_nD a []
@[simp] theorem oInt_bl (b) : oInt (.bl b) = some (.z (.int (if b then 1 else 0))) := rfl
@[simp] theorem oInt_int (b) : oInt (.int b) = some (.z (.int b)) := rfl
def mnI (i j : Int) : Int := if j < i then j else i
def mxI (i j : Int) : Int := if j > i then j else i
@[simp] theorem oMin2_int (i j) : oMin2 (.int i) (.int j) = some (.z (.int (mnI i j))) := rfl
@[simp] theorem oMax2_int (i j) : oMax2 (.int i) (.int j) = some (.z (.int (mxI i j))) := rfl
theorem mnI_eq (i j : Int) : (mnI i j = i ∧ i ≤ j) ∨ (mnI i j = j ∧ j < i) := by unfold mnI; split <;> omega
def R.cmp (r : R (Option D)) (k : List T → R (List D)) : R (List D) := match r with
  | .ok (some y) ts => (match k ts with | .ok l ts' => .ok (y :: l) ts' | .ex c ts' => .ex c ts' | .bad => .bad)
  | .ok none ts => k ts
  | _ => .bad
def R.push (y : D) (r : R (List D)) : R (List D) := match r with | .ok l ts' => .ok (y :: l) ts' | .ex c ts' => .ex c ts' | .bad => .bad
@[simp] theorem push_ok (y l ts) : R.push y (.ok l ts) = .ok (y :: l) ts := rfl
@[simp] theorem cmp_some (y ts k) : R.cmp (.ok (some y) ts) k = R.push y (k ts) := rfl
@[simp] theorem cmp_none (ts k) : R.cmp (.ok none ts) k = k ts := rfl
@[simp] theorem oSum_t3 (a b c) : oSum (.tup [.int a, .int b, .int c]) = some (.z (.int (a + (b + (c + 0))))) := rfl
@[simp] theorem uI_03 : uI 0 3 = [0, 1, 2] := rfl
@[simp] theorem toB_bl (b) : toB (.bl b) = some b := rfl
theorem blsD_map (l : List Bool) : blsD (l.map .bl) = some l := by
  induction l with
  | nil => rfl
  | cons x l ih => rw [List.map_cons, blsD, ih]; rfl
@[simp] theorem oEq_nil_nil : oEq (.lst []) (.lst []) = some (.z (.bl true)) := oEq_refl (k := 1) rfl (by omega)
/-- a loop that goes through, by an invariant with a count -/
theorem loopS_rel {put : D → List T → Option (List T)} {body : S} (I : Nat → List T → Prop) : ∀ (ds : List D) (n : Nat) (ts : List T), I n ts →
    (∀ k ts d, d ∈ ds → k < n + ds.length → I k ts → ∃ ts', lTurn put body d ts = .nx ts' ∧ I (k + 1) ts') → ∃ ts', loopS put body ds ts = .nx ts' ∧ I (n + ds.length) ts'
  | [], n, ts, h0, _ => ⟨ts, rfl, h0⟩
  | d :: ds, n, ts, h0, h => by
    obtain ⟨ts1, e1, i1⟩ := h n ts d List.mem_cons_self (by rw [List.length_cons]; omega) h0
    obtain ⟨ts2, e2, i2⟩ := loopS_rel I ds (n + 1) ts1 i1 fun k us d' hd hk => h k us d' (List.mem_cons_of_mem _ hd) (by rw [List.length_cons]; omega)
    refine ⟨ts2, by rw [loopS_cons, e1, lp_nx, e2], ?_⟩
    rw [List.length_cons, show n + (ds.length + 1) = n + 1 + ds.length by omega]
    exact i2
end Ar
/-! ArX: raise, try .. except, isinstance of what was caught. -/
namespace Ar
open PySem PySem.Spec PyProof.Rows L2
/-- an own class of exceptions, by its name -/
def ExcF (K : PySem.W.Frag) (mg : Str → Option Value) (x : Str) : Prop := ∃ C : Addr, mg x = some (.ref C) ∧ PySem.W.excIn K C [.type "ValueError", .type "Exception", .type "BaseException", .type "object"] "ValueError.__new__" = true ∧
  PySem.W.keepIn K (.ref C) = true ∧ PySem.W.subIn K (.ref C) (.type "BaseException") = some true ∧ PySem.W.typeIn K (.ref C) = some (.type "type")
/-- what 'except y' catches of the classes that are named -/
def CatT (K : PySem.W.Frag) (mg : Str → Option Value) (y : Str) (cat : Str → Option Bool) : Prop := ∃ D : Addr, mg y = some (.ref D) ∧ ∀ e b C, cat e = some b → mg e = some (.ref C) → PySem.W.exmOne K (.ref C) (.ref D) = some b
/-- what isinstance(.., y) tells of their instances -/
def IsT (K : PySem.W.Frag) (mg : Str → Option Value) (y : Str) (is : Str → Option Bool) : Prop := ∃ D : Addr, mg y = some (.ref D) ∧ ∀ e b C, is e = some b → mg e = some (.ref C) → PySem.W.kitOne K (.ref C) (.ref D) = some b ∧ ExcC K C
section
variable {X : Cx} {W : WX} {bs : List Nat} {pos p p2 pos' np : Pos}
theorem ps_raiseO {x m : Str} {j : Nat} (F : ExcF X.K X.mg x) (hc : X.calm = true) (tk : Takes X W) (hg : Gl X x) (hdb : (x == ("__debug__" : Str)) = false) :
    PS X (.Raise (some (.Call (.Name x p) [.Constant (.str m) j p2] [] pos)) none pos') (tS (gx X) W bs (RS.ex x)) := by
  obtain ⟨C, h1, h2, h3, h4, h5⟩ := F
  exact ps_raiseS hc tk (pmk_own PySem.F.excBase_ValueError h2 h1 h3 (raises_own h4 h5) hg hdb) h1
/-! ### the suite's statements, where slot i holds what was caught -/
def tX (i : Nat) (a : Addr) (t : TS) : TS := fun D σ H => σ[i]? = some (some (.ref a)) ∧ t D σ H
/-- a value that is known -/
def tKn (i : Nat) (a : Addr) (v : V) : TE := fun σ H Q => σ[i]? = some (some (.ref a)) ∧ Q v H
theorem ps_X {st : Stmt} {i : Nat} {a : Addr} {m : S} (h : PS X st (tS (gx X) W bs m)) : PS X st (tX i a (tS (gx X) W bs m)) := ps_imp h fun D σ H q => q.2
theorem pss_nilX {i : Nat} {a : Addr} : PSs X [] (tX i a (tS (gx X) W bs RS.nx)) := pss_imp pss_nilS fun D σ H q => q.2
theorem pss_consX {st : Stmt} {rest : List Stmt} {i : Nat} {a : Addr} {m n : S} (hi : i ∈ bs) (h1 : PS X st (tX i a (tS (gx X) W bs m))) (h2 : PSs X rest (tX i a (tS (gx X) W bs n))) : PSs X (st :: rest) (tX i a (tS (gx X) W bs (sq m n))) :=
  pss_imp (pss_cons h1 h2) fun D σ H ⟨f, F, Mm, G, ts, sa, k⟩ => by
    refine ⟨f, F, Mm, G, ts, sa, ?_⟩
    unfold sq at k
    cases e : m ts with
    | nx ts' =>
      rw [e] at k
      intro F' M' H' σ' s1 st q
      exact ⟨by rw [q i hi]; exact f, F', M', G, ts', st, KS.mono k s1 q⟩
    | bk ts' => rw [e] at k; exact k
    | ct ts' => rw [e] at k; exact k
    | rt t ts' => rw [e] at k; exact k
    | ex c ts' => rw [e] at k; exact k
    | bad => rw [e] at k; exact k
/-! isinstance -/
theorem k_isE {n y : Str} {i : Nat} {a C : Addr} {oe : Obj} {pn : List (Addr × Obj)} {is : Str → Option Bool} {e : Str} {b : Bool} (I : IsT X.K X.mg y is) (he : X.mg e = some (.ref C)) (hb : is e = some b) (hz : Zc (.ref C) none oe) (hf : ∃ vs, oe.data = .fields vs)
    (hm : X.mg "isinstance" = none) (hg : Gl X "isinstance") (hgy : Gl X y) (hdy : (y == ("__debug__" : Str)) = false) (hN : X.N[i]? = some n) (hv : Vis X.env.scope n) (hd : (n == ("__debug__" : Str)) = false) (hcd : (n == ("__classdict__" : Str)) = false) :
    PE (X.suite a ((a, oe) :: pn)) (.Call (.Name "isinstance" p) [.Name n p2, .Name y np] [] pos) (tKn i a (.bl b)) := by
  obtain ⟨D, hD, hq⟩ := I
  obtain ⟨q, EC⟩ := hq e b C hb he
  refine pe_imp (pe_callB (X := X.suite a ((a, oe) :: pn)) (call_isE EC hz hf) hg hm (by decide +kernel) (pa_cons (pe_var hN hv hd hcd) (pa_cons (pe_glob (v := .ref D) hgy hD rfl hdy) pa_nil))) fun σ H Q ⟨f, k⟩ => ?_
  exact ⟨.ref a, f, .ref D, .ref D, b, rfl, fun u r => by cases r; rfl, q, k⟩
/-- a mirror of the suite by the class that is caught: what is asked of it is known -/
def bySome (o : Option Bool) (s : Bool → S) : S := match o with
  | some b => s b
  | none => badS
end
/-! ### try -/
def fixT (i : Nat) : RS → RS
  | .nx t => .nx (t.set i .gone)
  | .bk t => .bk (t.set i .gone)
  | .ct t => .ct (t.set i .gone)
  | .rt v t => .rt v t
  | _ => .bad
def tryA (i : Nat) (cat : Str → Option Bool) (m : S) (s : Str → S) : S := fun ts => match m ts with
  | .ex e ts' => (match cat e with
    | some true => if i < ts'.length then fixT i (s e (ts'.set i .gone)) else .bad
    | some false => .ex e ts'
    | none => .bad)
  | r => r
def noEx : RS → RS
  | .ex _ _ => .bad
  | r => r
def tryO (cat : Str → Option Bool) (m : S) (s : Str → S) : S := fun ts => match m ts with
  | .ex e ts' => (match cat e with
    | some true => noEx (s e ts')
    | some false => .ex e ts'
    | none => .bad)
  | r => r
section
variable {X : Cx} {W : WX} {bs : List Nat} {pos np pos' : Pos} {y n : Str} {i : Nat} {body suite : List Stmt} {b₀ : Stmt} {m : S} {s : Str → S} {cat : Str → Option Bool}
end
/-! running -/
def RS.tryA (r : RS) (i : Nat) (cat : Str → Option Bool) (s : Str → S) : RS := match r with
  | .ex e ts' => (match cat e with
    | some true => if i < ts'.length then fixT i (s e (ts'.set i .gone)) else .bad
    | some false => .ex e ts'
    | none => .bad)
  | r => r
def RS.tryO (r : RS) (cat : Str → Option Bool) (s : Str → S) : RS := match r with
  | .ex e ts' => (match cat e with
    | some true => noEx (s e ts')
    | some false => .ex e ts'
    | none => .bad)
  | r => r
@[simp] theorem tryA_ap (i cat m s ts) : tryA i cat m s ts = (m ts).tryA i cat s := by
  unfold tryA RS.tryA
  cases m ts <;> rfl
@[simp] theorem tryO_ap (cat m s ts) : tryO cat m s ts = (m ts).tryO cat s := by
  unfold tryO RS.tryO
  cases m ts <;> rfl
@[simp] theorem tryA_nx (ts i cat s) : RS.tryA (.nx ts) i cat s = .nx ts := rfl
@[simp] theorem tryA_rt (t ts i cat s) : RS.tryA (.rt t ts) i cat s = .rt t ts := rfl
@[simp] theorem tryO_nx (ts cat s) : RS.tryO (.nx ts) cat s = .nx ts := rfl
@[simp] theorem tryO_rt (t ts cat s) : RS.tryO (.rt t ts) cat s = .rt t ts := rfl
@[simp] theorem fixT_nx (i t) : fixT i (.nx t) = .nx (t.set i .gone) := rfl
@[simp] theorem fixT_rt (i v t) : fixT i (.rt v t) = .rt v t := rfl
@[simp] theorem noEx_nx (t) : noEx (.nx t) = .nx t := rfl
@[simp] theorem noEx_rt (v t) : noEx (.rt v t) = .rt v t := rfl
@[simp] theorem bySome_some (b s) : bySome (some b) s = s b := rfl
/-! tables -/
inductive CatL (K : PySem.W.Frag) (mg : Str → Option Value) (D : Addr) : List (Str × Bool) → Prop
  | nil : CatL K mg D []
  | cons {x : Str} {b : Bool} {C : Addr} {l : List (Str × Bool)} : mg x = some (.ref C) → PySem.W.exmOne K (.ref C) (.ref D) = some b → CatL K mg D l → CatL K mg D ((x, b) :: l)
theorem CatL.find {K : PySem.W.Frag} {mg : Str → Option Value} {D : Addr} : ∀ {l : List (Str × Bool)}, CatL K mg D l → ∀ e b C, l.lookup e = some b → mg e = some (.ref C) → PySem.W.exmOne K (.ref C) (.ref D) = some b
  | _, .nil, e, b, C, h, _ => by simp at h
  | _, .cons (x := x) hm hx r, e, b, C, h, hC => by
    rw [List.lookup_cons] at h
    cases q : e == x with
    | true =>
      rw [q] at h
      have ex : e = x := beq_iff_eq.mp q
      subst ex
      rw [hm] at hC
      cases hC
      cases h
      exact hx
    | false => rw [q] at h; exact r.find e b C h hC
theorem catT_of {K : PySem.W.Frag} {mg : Str → Option Value} {y : Str} {D : Addr} {l : List (Str × Bool)} (h : mg y = some (.ref D)) (t : CatL K mg D l) : CatT K mg y (fun e => l.lookup e) := ⟨D, h, fun e b C => t.find e b C⟩
inductive IsL (K : PySem.W.Frag) (mg : Str → Option Value) (D : Addr) : List (Str × Bool) → Prop
  | nil : IsL K mg D []
  | cons {x : Str} {b : Bool} {C : Addr} {l : List (Str × Bool)} : mg x = some (.ref C) → PySem.W.kitOne K (.ref C) (.ref D) = some b → ExcC K C → IsL K mg D l → IsL K mg D ((x, b) :: l)
theorem IsL.find {K : PySem.W.Frag} {mg : Str → Option Value} {D : Addr} : ∀ {l : List (Str × Bool)}, IsL K mg D l → ∀ e b C, l.lookup e = some b → mg e = some (.ref C) → PySem.W.kitOne K (.ref C) (.ref D) = some b ∧ ExcC K C
  | _, .nil, e, b, C, h, _ => by simp at h
  | _, .cons (x := x) hm hx E r, e, b, C, h, hC => by
    rw [List.lookup_cons] at h
    cases q : e == x with
    | true =>
      rw [q] at h
      have ex : e = x := beq_iff_eq.mp q
      subst ex
      rw [hm] at hC
      cases hC
      cases h
      exact ⟨hx, E⟩
    | false => rw [q] at h; exact r.find e b C h hC
theorem isT_of {K : PySem.W.Frag} {mg : Str → Option Value} {y : Str} {D : Addr} {l : List (Str × Bool)} (h : mg y = some (.ref D)) (t : IsL K mg D l) : IsT K mg y (fun e => l.lookup e) := ⟨D, h, fun e b C => t.find e b C⟩
/-! what isinstance of the caught tells, put together -/
def KE (X : Cx) (ex : Expr) (i : Nat) (a : Addr) (o : Option Bool) : Prop := ∀ b, o = some b → PE X ex (tKn i a (.bl b))
def oNot (o : Option Bool) : Option Bool := o.map fun b => !b
def oOr (o q : Option Bool) : Option Bool := match o, q with | some a, some b => some (a || b) | _, _ => none
section
variable {X : Cx} {W : WX} {bs : List Nat} {pos p p2 pos' np : Pos} {i : Nat} {a : Addr} {o q : Option Bool} {ex fx : Expr}
theorem ke_is {n y : Str} {C : Addr} {oe : Obj} {pn : List (Addr × Obj)} {is : Str → Option Bool} {e : Str} (I : IsT X.K X.mg y is) (he : X.mg e = some (.ref C)) (hz : Zc (.ref C) none oe) (hf : ∃ vs, oe.data = .fields vs)
    (hm : X.mg "isinstance" = none) (hg : Gl X "isinstance") (hgy : Gl X y) (hdy : (y == ("__debug__" : Str)) = false) (hN : X.N[i]? = some n) (hv : Vis X.env.scope n) (hd : (n == ("__debug__" : Str)) = false) (hcd : (n == ("__classdict__" : Str)) = false) :
    KE (X.suite a ((a, oe) :: pn)) (.Call (.Name "isinstance" p) [.Name n p2, .Name y np] [] pos) i a (is e) := fun b hb => k_isE I he hb hz hf hm hg hgy hdy hN hv hd hcd
end
theorem kit_ref {K : PySem.W.Frag} {C D : Addr} {b : Bool} (hdct : PySem.W.hasDictIn K D = true) (ht : PySem.W.typeIn K (.ref D) = some (.type "type")) (h4 : PySem.W.subIn K (.ref C) (.ref D) = some b) (hs : PySem.W.subIn K (.ref D) (.ref D) = some true) : PySem.W.kitOne K (.ref C) (.ref D) = some b := by
  obtain ⟨cd, hc, _⟩ := PySem.W.any_some hdct
  have e2 : ((PySem.W.clsIn K D).isSome && PySem.W.typeIn K (.ref D) == some (.type "type")) = true := by rw [hc, ht] <;> rfl
  show (if ((Value.ref C) == (Value.ref D)) = true then some true else (if ((PySem.W.clsIn K D).isSome && PySem.W.typeIn K (.ref D) == some (.type "type")) = true then PySem.W.subIn K (.ref C) (.ref D) else none)) = some b
  by_cases h : ((Value.ref C) == (Value.ref D)) = true
  · rw [if_pos h]
    have e : C = D := by have := eq_of_beq h; cases this; rfl
    subst e
    rw [hs] at h4
    exact h4
  · rw [if_neg h, if_pos e2]
    exact h4
end Ar
/-! ArY: texts: walked, joined, searched. -/
namespace Ar
open PySem PySem.Spec PyProof.Rows L2
def signs (s : Str) : List D := s.cps.toList.map fun c => D.str ⟨#[c]⟩
def signsOf : D → Option (List D)
  | .str s => some (signs s)
  | _ => none
theorem src_str {g : Gx} {F1 : Hp} (s : Str) : Src g F1 (Its s) (signs s) where
  go := fun i F Mm G H σ ts _ st hi => by
    show i < s.cps.size
    unfold signs at hi
    simpa using hi
  stop := fun i F Mm G H σ ts _ st hi => by
    show s.cps.size ≤ i
    unfold signs at hi
    have : i = s.cps.size := by simpa using hi
    omega
  yld := fun i d F Mm G H σ ts x H' _ st e h => by
    obtain ⟨rfl, c, hc, rfl⟩ := h
    unfold signs at e
    rw [List.getElem?_map, Array.getElem?_toList, hc] at e
    cases e
    exact ⟨F, Same.refl _, .str _, st⟩
section
variable {X : Cx} {W : WX} {tg e o : Expr} {pos p apos cpos : Pos} {m ma mb : M D}
theorem i_str (h : PE X e (tZ (gx X) W m)) : PI X tg e (tI (gx X) W (itM signsOf m)) :=
  pi_imp (pi_str h) fun σ H Rr ⟨F, Mm, G, ts, st, k⟩ => by
    unfold itM at k
    refine tZ_then (K := KI (gx X) W F G σ Rr) st id (fun _ _ z => z) k fun d ts1 _ k1 F1 M1 H1 v s1 r1 st1 => ?_
    cases r1 with
    | str s => exact ⟨s, rfl, k1 F1 M1 H1 _ s1 st1 (src_str s)⟩
    | _ => exact k1.elim
/-! 'a'.find(b), 'a'.join(l) -/
def oFind (x y : D) : Option T := match x, y with
  | .str a, .str b => some (.z (.int (Txt.find a b)))
  | _, _ => none
def strsD : List D → Option (List Str)
  | [] => some []
  | .str s :: r => (match strsD r with | some l => some (s :: l) | none => none)
  | _ :: _ => none
theorem strs_eq : ∀ {ds : List D} {l : List Str}, strsD ds = some l → ds = l.map D.str
  | [], l, e => by cases e; rfl
  | .str s :: r, l, e => by
    rw [strsD] at e
    cases q : strsD r with
    | none => rw [q] at e; cases e
    | some k => rw [q] at e; cases e; rw [strs_eq q]; rfl
  | .non :: _, _, e => by cases e
  | .bl _ :: _, _, e => by cases e
  | .int _ :: _, _, e => by cases e
  | .lst _ :: _, _, e => by cases e
  | .tup _ :: _, _, e => by cases e
  | .dk _ :: _, _, e => by cases e
  | .dt _ :: _, _, e => by cases e
  | .st _ :: _, _, e => by cases e
  | .scr _ :: _, _, e => by cases e
  | .fn _ :: _, _, e => by cases e
def oJoin (x y : D) : Option T := match x, y with
  | .str a, .lst l => (match strsD l with
    | some ys => if (ys.map (·.length)).sum + ys.length * a.length ≤ 16777216 then some (.z (.str (Txt.join a ys))) else none
    | none => none)
  | _, _ => none
def isStr : D → Bool
  | .str _ => true
  | _ => false
def recvS (m : M D) : M D := m >>= fun d => if isStr d = true then M.ret d else stop
theorem recv_then {m : M D} {f : D → M T} {F Mm G H : Hp} {σ : L2.St} {ts : List T} {Q : VK} {Q' : VK} (st : Sta (gx X) F Mm G H σ ts) (k : KD (gx X) W F G σ Q ((recvS m >>= f) ts))
    (go : ∀ a ts1, KD (gx X) W F G σ Q (f (.str a) ts1) → ∀ F' M' H', Same F F' → Sta (gx X) F' M' G H' σ ts1 → Q' (.str a) H') : tZ (gx X) W m σ H Q' := by
  refine ⟨F, Mm, G, ts, st, ?_⟩
  have e0 : (recvS m >>= f) ts = (m >>= fun d => (if isStr d = true then M.ret d else stop) >>= f) ts := by
    show M.andThen (M.andThen m _) f ts = M.andThen m _ ts
    unfold M.andThen
    cases m ts <;> rfl
  rw [e0] at k
  cases q : m ts with
  | bad => rw [bind_bad q] at k; exact k
  | ex c ts' => rw [bind_ex q] at k; exact k
  | ok d ts' =>
    rw [bind_ok q] at k
    cases d with
    | str a =>
      intro F' M' H' v s r st1
      cases r
      exact go a ts' k F' M' H' s st1
    | _ => exact k.elim
theorem c_find (ho : PE X o (tZ (gx X) W ma)) (he : PE X e (tV (gx X) W mb)) (hbase : attributeBase o "find" X.env (eval o X.env) = eval o X.env) (n : nst e = true) (hl : (apos.endLine == cpos.line) = true) :
    PE X (.Call (.Attribute o "find" apos) [e] [] cpos) (tD (gx X) W (binZ oFind (recvS ma) mb)) :=
  pe_imp (pe_bm PySem.F.plainAttrs_str PySem.F.slot_str_find PySem.F.type_str_find mt_find ho (pa_cons he pa_nil (star_of n _ _)) hbase (few1 n _ _) hl (star_of n _ _) rfl) fun σ H Q ⟨F, Mm, G, ts, st, k⟩ => by
    unfold binZ at k
    refine recv_then st k fun a ts1 k1 F1 M1 H1 s1 st1 => ⟨rfl, ?_⟩
    refine tV_then (K := KD (gx X) W F1 G σ Q) st1 id (fun _ _ z => z) (KD.mono s1 k1) fun y ts2 _ k2 F2 M2 H2 v2 s2 r2 st2 => ?_
    obtain ⟨t, q, out⟩ := KD.opt st2 (KD.mono s2 k2)
    cases y with
    | str b =>
      cases q
      cases r2 with
      | r r2 => cases r2; exact ⟨a, b, rfl, rfl, out.val (.int _)⟩
    | _ => cases q
theorem c_join (ho : PE X o (tZ (gx X) W ma)) (he : PE X e (tV (gx X) W mb)) (hbase : attributeBase o "join" X.env (eval o X.env) = eval o X.env) (n : nst e = true) (hl : (apos.endLine == cpos.line) = true) :
    PE X (.Call (.Attribute o "join" apos) [e] [] cpos) (tD (gx X) W (binZ oJoin (recvS ma) mb)) :=
  pe_imp (pe_bm PySem.F.plainAttrs_str PySem.F.slot_str_join PySem.F.type_str_join mt_join ho (pa_cons he pa_nil (star_of n _ _)) hbase (few1 n _ _) hl (star_of n _ _) rfl) fun σ H Q ⟨F, Mm, G, ts, st, k⟩ => by
    unfold binZ at k
    refine recv_then st k fun a ts1 k1 F1 M1 H1 s1 st1 => ⟨rfl, ?_⟩
    refine tV_then (K := KD (gx X) W F1 G σ Q) st1 id (fun _ _ z => z) (KD.mono s1 k1) fun y ts2 _ k2 F2 M2 H2 v2 s2 r2 st2 => ?_
    obtain ⟨t, q, out⟩ := KD.opt st2 (KD.mono s2 k2)
    unfold oJoin at q
    cases y with
    | lst l =>
      dsimp only at q
      cases qs : strsD l with
      | none => rw [qs] at q; cases q
      | some ys =>
        rw [qs] at q
        dsimp only at q
        split at q
        · rename_i hb
          cases q
          obtain ⟨p, xs, rfl, hp, rp⟩ := r2.lst st2.hc.fh
          rw [strs_eq qs] at rp
          rw [rp.strs_inv] at hp
          exact ⟨a, p, ys, rfl, rfl, .inl (.of hp), hb, out.val (.str _)⟩
        · cases q
    | _ => cases q
end
@[simp] theorem recvS_ap (m ts) : recvS m ts = (m ts).and fun d ts1 => if isStr d = true then .ok d ts1 else .bad := by
  unfold recvS; rw [bind_ap]; congr 1; funext d ts1; split <;> rfl
@[simp] theorem isStr_str (s) : isStr (.str s) = true := rfl
@[simp] theorem signsOf_str (s) : signsOf (.str s) = some (signs s) := rfl
@[simp] theorem oFind_str (a b) : oFind (.str a) (.str b) = some (.z (.int (Txt.find a b))) := rfl
/-! texts as data -/
def sD (l : List Str) : List D := l.map D.str
def sT (l : List Str) : List T := l.map fun s => T.z (D.str s)
@[simp] theorem strsD_sD (l) : strsD (sD l) = some l := by
  induction l with
  | nil => rfl
  | cons x l ih => show strsD (.str x :: sD l) = _; rw [strsD, ih]
@[simp] theorem sD_sT (l) : (sD l).map T.z = sT l := by unfold sD sT; rw [List.map_map]; rfl
@[simp] theorem fzs_sT (l) : T.fzs (sT l) = some (sD l) := by rw [← sD_sT, fzs_z]
@[simp] theorem vwz_sT (l) : vwz (sT l) = some (sD l) := by rw [← sD_sT, vwz_of]
@[simp] theorem sT_length (l) : (sT l).length = l.length := List.length_map _
@[simp] theorem sT_app1 (l s) : sT l ++ [.z (.str s)] = sT (l ++ [s]) := by unfold sT; simp
@[simp] theorem oJoin_sD (a l) : oJoin (.str a) (.lst (sD l)) = if (l.map (·.length)).sum + l.length * a.length ≤ 16777216 then some (.z (.str (Txt.join a l))) else none := by
  unfold oJoin
  simp
@[simp] theorem oLen_str (s) : oLen (.str s) = if s.length ≤ lim then some (.z (.int s.length)) else none := rfl
theorem oIx_str (s) (i) : oIx (.str s) (.int i) = if s.length ≤ lim then (atI s.cps.toList i).map fun c => .z (.str ⟨#[c]⟩) else none := rfl
/-! texts by their signs -/
def tx (l : List Nat) : Str := ⟨l.toArray⟩
@[simp] theorem tx_length (l) : (tx l).length = l.length := by show l.toArray.size = _; simp
@[simp] theorem tx_cps (l) : (tx l).cps.toList = l := by simp [tx]
theorem tx_of (s : Str) : tx s.cps.toList = s := by cases s; simp [tx]
theorem tx_inj {a b : List Nat} (h : tx a = tx b) : a = b := by have := congrArg (fun s => s.cps.toList) h; simpa using this
@[simp] theorem tx_app (a b) : tx a ++ tx b = tx (a ++ b) := by
  show Str.append (tx a) (tx b) = _
  unfold Str.append tx
  simp
@[simp] theorem signs_tx (l) : signs (tx l) = l.map fun c => D.str (tx [c]) := by unfold signs; rw [tx_cps]; rfl
def chrOk (l : List Nat) : Bool := l.all (· < 0x110000)
theorem okq_tx {l : List Nat} (h : chrOk l = true) : okq (.str (tx l)) = true := by
  have e : PyData.strOk (tx l) = true := by unfold PyData.strOk tx; simpa [chrOk] using h
  show SeqAt.shaped (PyData.str (tx l)) = true
  unfold SeqAt.shaped
  rw [Bool.and_eq_true]
  exact ⟨by simpa [PyData.canLay0] using e, by rfl⟩
@[simp] theorem eqd_tx (a b) : eqd (.str (tx a)) (.str (tx b)) = decide (a = b) := by
  show (tx a == tx b) = _
  by_cases h : a = b
  · subst h; simp
  · have : tx a ≠ tx b := fun e => h (tx_inj e)
    simp [h, this]
theorem oEq_tx {a b : List Nat} (h1 : chrOk a = true) (h2 : chrOk b = true) : oEq (.str (tx a)) (.str (tx b)) = some (.z (.bl (decide (a = b)))) := by
  unfold oEq
  rw [if_pos ⟨okq_tx h1, okq_tx h2⟩, eqd_tx]
theorem oIx_tx (l : List Nat) (i : Int) (h : l.length ≤ lim) : oIx (.str (tx l)) (.int i) = (atI l i).map fun c => .z (.str (tx [c])) := by
  rw [oIx_str, tx_length, if_pos h, tx_cps]; rfl
@[simp] theorem oIn_tx1 (c l) : oIn (.str (tx [c])) (.str (tx l)) = some (.z (.bl (decide (c ∈ l)))) := by
  unfold oIn inD; simp
@[simp] theorem oNotIn_tx1 (c l) : oNotIn (.str (tx [c])) (.str (tx l)) = some (.z (.bl (!decide (c ∈ l)))) := by
  unfold oNotIn inD; simp
theorem oSl_tx (l : List Nat) (lo hi) (h : l.length ≤ lim) : oSl (.str (tx l)) lo hi = some (.z (.str (tx (cutD l lo hi)))) := by
  unfold oSl
  dsimp only
  rw [tx_length, if_pos h]
  unfold cutS cutD
  rw [tx_cps, tx_length]
  rfl
end Ar
/-! ArZ: list.index, insert, try with several clauses, range with a step. -/
namespace Ar
open PySem PySem.Spec PyProof.Rows L2
/-! l.index(x) -/
def isLstD : D → Bool
  | .lst _ => true
  | _ => false
def recvL (m : M D) : M D := m >>= fun d => if isLstD d = true then M.ret d else stop
section
variable {X : Cx} {W : WX} {e o a1 a2 a3 tg : Expr} {pos p apos cpos : Pos} {m ma mb mc : M D} {i : Nat} {x : Str}
/-! l.insert(j, y) of an owned list -/
def insM (i : Nat) (mk m : M D) : M T := fun ts => if isL i ts = true then (mk >>= fun d => m >>= fun y ts1 => match d, ts1[i]? with
  | .int j, some (.l xs) => if xs.length < lim ∧ 0 ≤ j ∧ j < 1000000 then .ok (.z .non) (ts1.set i (.l (xs.take j.toNat ++ [.z y] ++ xs.drop j.toNat))) else .bad
  | _, _ => .bad) ts else .bad
theorem ROs.ins {g : Gx} {F : Hp} {v : V} {d : D} (r : Rp g F v d) : ∀ {M : Hp} {vs : List V} {ts : List T} (k : Nat), ROs g F M vs ts → ROs g F M (vs.take k ++ [v] ++ vs.drop k) (ts.take k ++ [.z d] ++ ts.drop k)
  | _, _, _, 0, h => .cons (M1 := em) (.z r) h Same.empty (Same.refl _) Dj.em_l
  | M, _, _, k + 1, .nil => .cons (M1 := em) (M2 := em) (.z r) .nil Same.empty Same.empty Dj.em_l
  | _, _, _, k + 1, .cons h1 h2 h3 h4 h5 => .cons h1 (ROs.ins r k h2) h3 h4 h5
/-! range(i, j, c) -/
def cnt3 (i j c : Int) : Nat := (PySem.Builtin.Range.rangeSize i j c).toNat
def stp3 (i c : Int) (n : Nat) : List D := (List.range n).map fun (k : Nat) => D.int (i + k * c)
def Rg3 (i j c : Int) : Prop := 0 ≤ i ∧ i < 1000000 ∧ 0 ≤ j ∧ j < 1000000 ∧ 0 < c ∧ c < 1000000
instance (i j c : Int) : Decidable (Rg3 i j c) := by unfold Rg3; infer_instance
def rng3 (i j c : D) : Option (List D) := match i, j, c with
  | .int i, .int j, .int c => if Rg3 i j c then some (stp3 i c (cnt3 i j c)) else none
  | _, _, _ => none
def it3M (f : D → D → D → Option (List D)) (m n l : M D) : M (List D) := m >>= fun d => n >>= fun e => l >>= fun c => opt (f d e c)
end
/-! try with several clauses -/
def tryN : List ((Str → Option Bool) × (Str → S)) → Str → List T → RS
  | [], e, ts => .ex e ts
  | (cat, s) :: r, e, ts => match cat e with
    | some true => noEx (s e ts)
    | some false => tryN r e ts
    | none => .bad
def tryL (l : List ((Str → Option Bool) × (Str → S))) (m : S) : S := fun ts => match m ts with
  | .ex e ts' => tryN l e ts'
  | r => r
inductive HdsM (X : Cx) (bs : List Nat) : List ExceptHandler → List ((Str → Option Bool) × (Str → S)) → Prop
  | nil : HdsM X bs [] []
  | cons {y : Str} {cat : Str → Option Bool} {s : Str → S} {b₀ : Stmt} {suite : List Stmt} {np pos' : Pos} {hds : List ExceptHandler} {l : List ((Str → Option Bool) × (Str → S))} (hg : Gl X y) (hd : (y == ("__debug__" : Str)) = false) (hC : CatT X.K X.mg y cat)
      (hsu : ∀ (e : Str) (a : Addr) (oe : Obj) (C : Addr) (pn : List (Addr × Obj)), X.mg e = some (.ref C) → Zc (.ref C) none oe → (∃ vs, oe.data = .fields vs) → PSs (X.suite a ((a, oe) :: pn)) (b₀ :: suite) (tS (gx X) W0 bs (s e)))
      (r : HdsM X bs hds l) : HdsM X bs (.ExceptHandler (some (.Name y np)) none (b₀ :: suite) pos' :: hds) ((cat, s) :: l)
section
variable {X : Cx} {W : WX} {bs : List Nat}
theorem HdsM.many : ∀ {hds : List ExceptHandler} {l : List ((Str → Option Bool) × (Str → S))}, HdsM X bs hds l → ∃ lts, HdsOk X hds lts ∧ ∀ {D : Ends} {F G F1 M1 H1 : Hp} {σ σ1 : L2.St} {e : Str} {C : Addr} {ts' : List T},
    KS (gx X) W bs F G σ D (tryN l e ts') → Same F F1 → Sta (gx X) F1 M1 G H1 σ1 ts' → Pin bs σ σ1 → X.mg e = some (.ref C) → wMany X.K W D lts (.ref C) none σ1 H1
  | _, _, .nil => ⟨[], .nil, fun {D F G F1 M1 H1 σ σ1 e C ts'} k s st p he => k F1 M1 H1 σ1 C s st p he⟩
  | _, _, .cons (cat := cat) (s := s) hg hd hC hsu r => by
    obtain ⟨lts, h1, h2⟩ := HdsM.many r
    obtain ⟨D0, hD, hcat⟩ := hC
    refine ⟨(.ref D0, fun a cls d D σ H => ∃ e C, X.mg e = some (.ref C) ∧ cls = .ref C ∧ d = none ∧ tS (gx X) W0 bs (s e) D σ H) :: lts, .cons ⟨hg, hd, .inl hD⟩ (fun a oe cls d pn hz hf => ⟨fun pins s1 σ H D I ⟨e, C, he, hcl, hdd, q⟩ => by
      subst hcl hdd
      exact (hsu e a oe C pn he hz hf).run pins s1 σ H D I q⟩) h1, fun {D F G F1 M1 H1 σ σ1 e C ts'} k s1 st1 p1 he => ?_⟩
    unfold tryN at k
    cases qc : cat e with
    | none => rw [qc] at k; exact k.elim
    | some b =>
      refine ⟨b, hcat e b C qc he, fun hb1 a ha => ?_, fun hb0 => ?_⟩
      · subst hb1
        rw [qc] at k
        dsimp only at k
        refine ⟨e, C, he, rfl, rfl, F1, M1, G, ts', st1, ?_⟩
        cases qs : s e ts' with
        | ex c t => rw [qs] at k; exact k.elim
        | nx t => rw [qs] at k; exact KS.mono (g := gx X) (W := W0) (r := .nx t) k s1 p1
        | bk t => rw [qs] at k; exact KS.mono (g := gx X) (W := W0) (r := .bk t) k s1 p1
        | ct t => rw [qs] at k; exact KS.mono (g := gx X) (W := W0) (r := .ct t) k s1 p1
        | rt v t => rw [qs] at k; exact KS.mono (g := gx X) (W := W0) (r := .rt v t) k s1 p1
        | bad => rw [qs] at k; exact k.elim
      · subst hb0
        rw [qc] at k
        exact h2 k s1 st1 p1 he
end
def RS.tryL (r : RS) (l : List ((Str → Option Bool) × (Str → S))) : RS := match r with
  | .ex e ts' => tryN l e ts'
  | r => r
@[simp] theorem tryL_ap (l m ts) : tryL l m ts = (m ts).tryL l := by
  unfold Ar.tryL RS.tryL
  cases m ts <;> rfl
@[simp] theorem tryL_nx (ts l) : RS.tryL (.nx ts) l = .nx ts := rfl
@[simp] theorem tryL_rt (t ts l) : RS.tryL (.rt t ts) l = .rt t ts := rfl
@[simp] theorem tryL_exx (e ts l) : RS.tryL (.ex e ts) l = tryN l e ts := rfl
/-! running -/
def insL (i : Nat) (j : Int) (y : D) (ts : List T) : Option T → R T
  | some (.l xs) => if xs.length < lim ∧ 0 ≤ j ∧ j < 1000000 then .ok (.z .non) (ts.set i (.l (xs.take j.toNat ++ [.z y] ++ xs.drop j.toNat))) else .bad
  | _ => .bad
def insT (i : Nat) (y : D) (ts : List T) : D → R T
  | .int j => insL i j y ts ts[i]?
  | _ => .bad
@[simp] theorem insL_l (i j y ts xs) : insL i j y ts (some (.l xs)) = if xs.length < lim ∧ 0 ≤ j ∧ j < 1000000 then .ok (.z .non) (ts.set i (.l (xs.take j.toNat ++ [.z y] ++ xs.drop j.toNat))) else .bad := rfl
@[simp] theorem insT_int (i y ts j) : insT i y ts (.int j) = insL i j y ts ts[i]? := rfl
theorem isL_O (i : Nat) (ts : List T) : isL i ts = isLO ts[i]? := by
  unfold isL isLO
  cases ts[i]? with
  | none => rfl
  | some t => cases t <;> rfl
@[simp] theorem insM_ap (i mk m ts) : insM i mk m ts = if isLO ts[i]? = true then (mk ts).and fun d ts1 => (m ts1).and fun y ts2 => insT i y ts2 d else .bad := by
  unfold insM
  rw [isL_O]
  congr 1
  rw [bind_ap]
  congr 1
  funext d ts1
  rw [bind_ap]
  congr 1
  funext y ts2
  cases d with
  | int j =>
    show _ = insL i j y ts2 ts2[i]?
    unfold insL
    cases ts2[i]? with
    | none => rfl
    | some t => cases t <;> rfl
  | _ => rfl
@[simp] theorem recvL_ap (m ts) : recvL m ts = (m ts).and fun d ts1 => if isLstD d = true then .ok d ts1 else .bad := by
  unfold recvL; rw [bind_ap]; congr 1; funext d ts1; split <;> rfl
@[simp] theorem isLstD_lst (l) : isLstD (.lst l) = true := rfl
@[simp] theorem it3M_ap (f m n l ts) : it3M f m n l ts = (m ts).and fun d ts1 => (n ts1).and fun e ts2 => (l ts2).and fun c ts3 => opt (f d e c) ts3 := by
  unfold it3M; rw [bind_ap]; congr 1
@[simp] theorem rng3_int (i j c) : rng3 (.int i) (.int j) (.int c) = if Rg3 i j c then some (stp3 i c (cnt3 i j c)) else none := rfl
def augU (i : Nat) (f : Int → Int → Int) (m : M D) (ts : List T) : Option T → RS
  | some (.z (.int a)) => (m ts).andS fun d ts' => match d with
    | .int b => if i < ts'.length then .nx (ts'.set i (.z (.int (f a b)))) else .bad
    | _ => .bad
  | _ => .bad
@[simp] theorem augU_int (i f m ts a) : augU i f m ts (some (.z (.int a))) = (m ts).andS fun d ts' => match d with
    | .int b => if i < ts'.length then .nx (ts'.set i (.z (.int (f a b)))) else .bad
    | _ => .bad := by unfold augU; rfl
@[simp] theorem augS_apU (i f m ts) : augS i f m ts = augU i f m ts ts[i]? := by
  unfold augS augU
  cases ts[i]? with
  | none => rfl
  | some t => cases t with
    | z d => cases d <;> first | rfl | (dsimp only; rw [bindS_ap])
    | _ => rfl
end Ar
/-! ArU: lists of lists of numbers; the last item. -/
namespace Ar
open PySem PySem.Spec PyProof.Rows L2
def lD (l : List (List Int)) : List D := l.map fun x => .lst (nD x)
@[simp] theorem lD_length (l) : (lD l).length = l.length := List.length_map _
@[simp] theorem lD_append (a b) : lD a ++ lD b = lD (a ++ b) := (List.map_append ..).symm
@[simp] theorem lD_get (l : List (List Int)) (i : Nat) : (lD l)[i]? = (l[i]?).map fun x => D.lst (nD x) := List.getElem?_map ..
theorem mem_uI {a b x : Int} : x ∈ uI a b ↔ a ≤ x ∧ x < b := by
  unfold uI
  rw [List.mem_map]
  constructor
  · rintro ⟨k, hk, rfl⟩; rw [List.mem_range] at hk; omega
  · rintro ⟨h1, h2⟩
    exact ⟨(x - a).toNat, by rw [List.mem_range]; omega, by omega⟩
theorem uI_nodup (a b : Int) : (uI a b).Nodup := by
  unfold uI
  refine List.Pairwise.map _ ?_ (List.nodup_range)
  intro x y h e
  exact h (by omega)
/-! tuples of numbers and tuples, in their order -/
end Ar
/-! ArV: displays of dicts, d.get(k). -/
namespace Ar
open PySem PySem.Spec PyProof.Rows L2
/-! {k: v}, where k is a tuple -/
theorem Sta.turn {g : Gx} {F M G H : Hp} {σ : L2.St} {ts : List T} {p : Addr} {o : HO} (o' : HO) (st : Sta g F M (jn (upd em p o) G) H σ ts) (dj : Dj (upd em p o) G) (nt : ∀ xs, o' ≠ .tup xs := by intro _ z; cases z) : H p = some o ∧ Sta g F M (jn (upd em p o') G) (upd H p o') σ ts ∧ Dj (upd em p o') G := by
  have hc := st.hc
  have hD : H p = some o := hc.gh _ _ (jn_l _ _ upd_same)
  have DM : M p = none := hc.mg.ne' (jn_l _ _ upd_same)
  have DF : F p = none := hc.fg.ne' (jn_l _ _ upd_same)
  have DG : G p = none := dj.ne upd_same
  have off : ∀ {A : Hp}, A p = none → Same A H → Same A (upd H p o') := fun {A} a s b o e => by rw [upd_ne (ne_of_none e a)]; exact s _ _ e
  exact ⟨hD, st.more (Same.refl _) ⟨off DF hc.fh, off DM hc.mh, jn_sub (same_upd_l Same.empty upd_same) (off DG ((jn_r dj).trans hc.gh)), hc.fm, dj_jn_r (dj_upd_l Dj.em_l DF).symm (hc.fg.sub (Same.refl _) (jn_r dj)), dj_jn_r (dj_upd_l Dj.em_l DM).symm (hc.mg.sub (Same.refl _) (jn_r dj)), hc.ft.cell nt⟩, dj_upd_l Dj.em_l DG⟩
/-- {k: v}, k a tuple of numbers and texts -/
def dsT (mk mv : M D) : M T := mk >>= fun k => mv >>= fun v => opt ((D.tkey k).map fun ks => .dt [(ks, v)])
section
variable {X : Cx} {W : WX} {k v o e f : Expr} {pos p apos cpos : Pos} {mk mv mo : M D}
/-- {} -/
def nwK : M T := fun ts => .ok (.dk []) ts
/-! d.get(k), d.get(k, x) -/
def oGet (x y z : D) : Option T := match x with
  | .dk kvs => (D.key y).map fun k => .z ((getK kvs k).getD z)
  | .dt kvs => (D.tkey y).map fun k => .z ((getK kvs k).getD z)
  | _ => none
def isDic : D → Bool
  | .dk _ => true
  | .dt _ => true
  | _ => false
def recvD (m : M D) : M D := m >>= fun d => if isDic d = true then M.ret d else stop
def get1 (mo mk : M D) : M T := recvD mo >>= fun x => mk >>= fun y => opt (oGet x y .non)
theorem isDic_at {g : Gx} {F H : Hp} {v : V} {d : D} (s : Same F H) (r : Rp g F v d) (h : isDic d = true) : ∃ a, v = .ref a ∧ IsD H a := by
  cases r with
  | dk h1 _ _ => exact ⟨_, rfl, .inl ⟨_, Same.rdm s h1⟩⟩
  | dt h1 _ _ => exact ⟨_, rfl, .inr ⟨_, Same.rdm s h1⟩⟩
  | _ => cases h
theorem get_at {g : Gx} {F H : Hp} {v u : V} {x y z : D} {w : V} {t : T} (s : Same F H) (rx : Rp g F v x) (ry : Vh g F H u y) (rz : Rp g F w z) (e : oGet x y z = some t) : ∃ a o d, v = .ref a ∧ DGet H a u o ∧ t = .z d ∧ Rp g F (o.getD w) d := by
  cases rx with
  | @dk a kvs ds h1 hk ra =>
    unfold oGet at e
    dsimp only at e
    cases q : Ar.D.key y with
    | none => rw [q] at e; cases e
    | some k =>
      rw [q] at e; cases e
      cases ry.key q
      refine ⟨a, _, _, rfl, dget_k (Same.rdm s h1), rfl, ?_⟩
      rcases val_getK hk ra k with ⟨e1, e2⟩ | ⟨d, v', e1, e2, e3⟩
      · rw [e1, e2]; exact rz
      · rw [e1, e2]; exact e3
  | @dt a kvs ds h1 hk ra =>
    unfold oGet at e
    dsimp only at e
    cases q : Ar.D.tkey y with
    | none => rw [q] at e; cases e
    | some k =>
      rw [q] at e; cases e
      obtain ⟨b, rfl, hb⟩ := ry.tkey s q
      refine ⟨a, _, _, rfl, dget_t (Same.rdm s h1) hb, rfl, ?_⟩
      rcases val_getK hk ra k with ⟨e1, e2⟩ | ⟨d, v', e1, e2, e3⟩
      · rw [e1, e2]; exact rz
      · rw [e1, e2]; exact e3
  | _ => cases e
theorem recvD_then {g : Gx} {W : WX} {m : M D} {f : D → M T} {F Mm G H : Hp} {σ : L2.St} {ts : List T} {Q : VK} {Q' : VK} (st : Sta g F Mm G H σ ts) (k : KD g W F G σ Q ((recvD m >>= f) ts))
    (go : ∀ d ts1, isDic d = true → KD g W F G σ Q (f d ts1) → ∀ F' M' H' v, Same F F' → Rp g F' v d → Sta g F' M' G H' σ ts1 → Q' v H') : tZ g W m σ H Q' := by
  refine ⟨F, Mm, G, ts, st, ?_⟩
  have e0 : (recvD m >>= f) ts = (m >>= fun d => (if isDic d = true then M.ret d else stop) >>= f) ts := by
    show M.andThen (M.andThen m _) f ts = M.andThen m _ ts
    unfold M.andThen
    cases m ts <;> rfl
  rw [e0] at k
  cases q : m ts with
  | bad => rw [bind_bad q] at k; exact k
  | ex c ts' => rw [bind_ex q] at k; exact k
  | ok d ts' =>
    rw [bind_ok q] at k
    by_cases hd : isDic d = true
    · rw [if_pos hd] at k
      intro F' M' H' v s r st1
      exact go d ts' hd k F' M' H' v s r st1
    · rw [if_neg hd] at k; exact k.elim
def get2 (mo mk mz : M D) : M T := recvD mo >>= fun x => mk >>= fun y => mz >>= fun z => opt (oGet x y z)
theorem c_get2 {mz : M D} (hu : X.A.units + 1 < cLine) (ho : PE X o (tZ (gx X) W mo)) (he : PE X e (tZ (gx X) W mk)) (hf : PE X f (tZ (gx X) W mz)) (hbase : attributeBase o "get" X.env (eval o X.env) = eval o X.env) (n : nst e = true) (n2 : nst f = true) (hl : (apos.endLine == cpos.line) = true) :
    PE X (.Call (.Attribute o "get" apos) [e, f] [] cpos) (tD (gx X) W (get2 mo mk mz)) :=
  pe_imp (pe_dget2 hu ho he hf ⟨hbase, few2 n n2 _ _, hl, by rw [star_of n, star_of n2]; rfl⟩) fun σ H Q ⟨F, Mm, G, ts, st, k⟩ => by
    have k : KD (gx X) W F G σ Q (get2 mo mk mz ts) := k
    unfold get2 at k
    refine recvD_then st k fun d ts1 hd k1 F1 M1 H1 v s1 r st1 => ?_
    obtain ⟨a, rfl, ia⟩ := isDic_at st1.hc.fh r hd
    refine ⟨a, rfl, ia, ?_⟩
    refine tZ_then (K := KD (gx X) W F1 G σ Q) st1 id (fun _ _ z => z) (KD.mono s1 k1) fun y ts2 _ k2 F2 M2 H2 v2 s2 r2 st2 => ?_
    refine tZ_then (K := KD (gx X) W F2 G σ Q) st2 id (fun _ _ z => z) (KD.mono s2 k2) fun z ts3 _ k3 F3 M3 H3 v3 s3 r3 st3 => ?_
    obtain ⟨t, q, out⟩ := KD.opt st3 (KD.mono s3 k3)
    obtain ⟨a', o', d', e1, e2, e3, e4⟩ := get_at st3.hc.fh ((r.mono s2).mono s3) (.r (r2.mono s3)) r3 q
    cases e1
    subst e3
    exact ⟨o', e2, out.val e4⟩
end
@[simp] theorem recvD_ap (m ts) : recvD m ts = (m ts).and fun d ts1 => if isDic d = true then .ok d ts1 else .bad := by
  unfold recvD; rw [bind_ap]; congr 1; funext d ts1; split <;> rfl
@[simp] theorem get1_ap (mo mk ts) : get1 mo mk ts = (recvD mo ts).and fun x ts1 => (mk ts1).and fun y ts2 => opt (oGet x y .non) ts2 := by
  unfold get1; rw [bind_ap]; congr 1
@[simp] theorem get2_ap (mo mk mz ts) : get2 mo mk mz ts = (recvD mo ts).and fun x ts1 => (mk ts1).and fun y ts2 => (mz ts2).and fun z ts3 => opt (oGet x y z) ts3 := by
  unfold get2; rw [bind_ap]; congr 1
@[simp] theorem isDic_dk (l) : isDic (.dk l) = true := rfl
@[simp] theorem isDic_dt (l) : isDic (.dt l) = true := rfl
@[simp] theorem dsT_ap (mk mv ts) : dsT mk mv ts = (mk ts).and fun k ts1 => (mv ts1).and fun v ts2 => opt ((D.tkey k).map fun ks => .dt [(ks, v)]) ts2 := by
  unfold dsT; rw [bind_ap]; congr 1
@[simp] theorem nwK_ap (ts) : nwK ts = .ok (.dk []) ts := rfl
@[simp] theorem fz_dt (l) : T.fz (.dt l) = some (.dt l) := by rw [T.fz]
@[simp] theorem vw_dt (l) : T.vw (.dt l) = some (.dt l) := rfl
@[simp] theorem frzT_dt (l) : frzT (.dt l) = .z (.dt l) := rfl
@[simp] theorem setAt_dt (d y l) : setAt d (.z y) (.dt l) = match D.tkey d with | some k => if l.length < lim then some (.dt (putD k y l)) else none | none => none := rfl
@[simp] theorem oIx_dt (l y) : oIx (.dt l) y = match D.tkey y with | some k => (getK l k).map .z | none => none := rfl
@[simp] theorem oIn_dt (l y) : oIn y (.dt l) = (D.tkey y).map fun k => .z (.bl (hasK l k)) := by unfold oIn inD; cases D.tkey y <;> rfl
@[simp] theorem oNotIn_dt (l y) : oNotIn y (.dt l) = (D.tkey y).map fun k => .z (.bl (!hasK l k)) := by unfold oNotIn inD; cases D.tkey y <;> rfl
@[simp] theorem oGet_dt (l y z) : oGet (.dt l) y z = (D.tkey y).map fun k => .z ((getK l k).getD z) := rfl
@[simp] theorem oGet_dk (l y z) : oGet (.dk l) y z = (D.key y).map fun k => .z ((getK l k).getD z) := rfl
/-! d[e] of an owned dict, e any expression -/
def isDtO : Option T → Bool
  | some (.dt _) => true
  | _ => false
def ixO (y : D) : Option T → Option T
  | some (.dt kvs) => (D.tkey y).bind fun k => (getK kvs k).map T.z
  | _ => none
def ixDt (i : Nat) (mb : M D) : M T := fun ts => if isDtO ts[i]? = true then (mb >>= fun y ts1 => opt (ixO y ts1[i]?) ts1) ts else .bad
@[simp] theorem isDtO_dt (l) : isDtO (some (.dt l)) = true := rfl
@[simp] theorem ixO_dt (y l) : ixO y (some (.dt l)) = (D.tkey y).bind fun k => (getK l k).map T.z := rfl
@[simp] theorem ixDt_ap (i mb ts) : ixDt i mb ts = if isDtO ts[i]? = true then (mb ts).and fun y ts1 => opt (ixO y ts1[i]?) ts1 else .bad := by
  unfold ixDt
  split
  · rw [bind_ap]
  · rfl
end Ar
/-! ArW: comprehensions whose items are owned; the list in an owned list is lengthened. -/
namespace Ar
open PySem PySem.Spec PyProof.Rows L2
def compRO (vs : List Nat) (put : D → List T → Option (List T)) (mc : M Bool) (me : M T) : List D → M (List T)
  | [] => fun ts => .ok [] (wipeT ts vs)
  | d :: ds => fun ts => match put d (wipeT ts vs) with
    | none => .bad
    | some ts1 => match mc ts1 with
      | .ok b ts2 => if b = true then (match me ts2 with
          | .ok y ts3 => match compRO vs put mc me ds ts3 with
            | .ok l ts4 => .ok (y :: l) ts4
            | .ex c ts4 => .ex c ts4
            | .bad => .bad
          | _ => .bad) else compRO vs put mc me ds ts2
      | _ => .bad
def compO (mi : M (List D)) (vs : List Nat) (put : D → List T → Option (List T)) (mc : M Bool) (me : M T) : M T :=
  mi >>= fun ds => compRO vs put mc me ds >>= fun l => if l.length ≤ lim then M.ret (.l l) else stop
section
variable {X : Cx} {W : WX} {elt tg iter : Expr} {ifs : List Expr} {scope : Scope} {own : List (Str × Nat)} {pos : Pos} {mi : M (List D)} {put : D → List T → Option (List T)} {mc : M Bool} {me : M T}
end
/-! x[e].append(y) of an owned list in an owned list -/
def del (M : Hp) (b : Addr) : Hp := fun x => if x = b then none else M x
theorem del_same (M : Hp) (b : Addr) : Same (del M b) M := fun x o e => by
  unfold del at e
  split at e
  · cases e
  · exact e
theorem del_at (M : Hp) (b : Addr) : del M b b = none := by unfold del; rw [if_pos rfl]
theorem upd_del (M : Hp) (b : Addr) (o : HO) : upd (del M b) b o = upd M b o := by
  funext x
  by_cases h : x = b
  · subst h; rw [upd_same, upd_same]
  · rw [upd_ne h, upd_ne h]; unfold del; rw [if_neg h]
theorem upd_mono {A B : Hp} {p : Addr} {o : HO} (h : Same A B) : Same (upd A p o) (upd B p o) := fun x u e => by
  by_cases hx : x = p
  · subst hx; rw [upd_same] at e ⊢; exact e
  · rw [upd_ne hx] at e ⊢; exact h _ _ e
theorem same_off {A B : Hp} {p : Addr} {o : HO} (h : Same B A) (n : B p = none) : Same B (upd A p o) := fun x u e => by
  rw [upd_ne (ne_of_none e n)]; exact h _ _ e
theorem Sta.lst2 {g : Gx} {F Mm Mv G H : Hp} {σ : L2.St} {ts : List T} {i k : Nat} {xs ys : List T} (st : Sta g F Mm (jn Mv G) H σ ts) (d : Dj Mv G) (e : ts[i]? = some (.l xs)) (ek : xs[k]? = some (.l ys)) :
    ∃ (a : Addr) (ws : List V) (b : Addr) (vs : List V), σ[i]? = some (some (.ref a)) ∧ H a = some (.lst ws) ∧ ws.length = xs.length ∧ ws[k]? = some (.ref b) ∧ H b = some (.lst vs) ∧ vs.length = ys.length ∧
      ∀ v y, Rp g F v y → ∃ M', Sta g F M' (jn Mv G) (upd H b (.lst (vs ++ [v]))) σ (ts.set i (.l (xs.set k (.l (ys ++ [.z y]))))) := by
  obtain ⟨v0, M1, M2, vs0, e1, r, s1, s2, dd, q, ev, back⟩ := st.slot e (fun z => nomatch z)
  have hc := st.hc
  cases r with
  | @l _ Mc a ws _ h1 h2 h3 h4 =>
    obtain ⟨w, A1, A2, ew, rk, t1, t2, dA, backk⟩ := h4.pick ek
    cases rk with
    | @l _ B b vs _ b1 b2 b3 b4 =>
      have mb : Mc b = some (.lst vs) := t1 _ _ b1
      have m1b : M1 b = some (.lst vs) := h2 _ _ mb
      have hb : H b = some (.lst vs) := hc.mh _ _ (s1 _ _ m1b)
      have ab : a ≠ b := fun z => by rw [← z] at mb; rw [h3] at mb; cases mb
      have dv1 : Dj Mv M1 := (hc.mg.sub s1 jn_l).symm
      refine ⟨a, ws, b, vs, e1, hc.mh _ _ (s1 _ _ h1), h4.length, ew, hb, b4.length, fun v y rv => ?_⟩
      have A2b : A2 b = none := dA.ne b1
      have ra : RO g F (upd A1 b (.lst (vs ++ [v]))) (.ref b) (.l (ys ++ [.z y])) := .l (M' := B) upd_same (same_off b2 b3) b3 (b4.append (.cons (M1 := em) (M2 := em) (.z rv) .nil Same.empty Same.empty Dj.em_l) Dj.em_r (Same.refl _) Same.empty)
      have rs : ROs g F (upd Mc b (.lst (vs ++ [v]))) (ws.set k (.ref b)) (xs.set k (.l (ys ++ [.z y]))) := backk F (upd A1 b (.lst (vs ++ [v]))) (.ref b) (.l (ys ++ [.z y])) (upd Mc b (.lst (vs ++ [v]))) (Same.refl _) ra (dj_upd_l dA A2b) (upd_mono t1) (fun x o ex => by
        by_cases hx : x = b
        · subst hx; rw [A2b] at ex; cases ex
        · rw [upd_ne hx]; exact t2 _ _ ex)
      have wk : ws.set k (.ref b) = ws := by
        refine List.ext_getElem? fun j => ?_
        by_cases hj : k = j
        · subst hj
          obtain ⟨hk, _⟩ := List.getElem?_eq_some_iff.mp ew
          rw [List.getElem?_set_self hk, ew]
        · rw [List.getElem?_set_ne hj]
      rw [wk] at rs
      have rr : RO g F (upd (del M1 b) b (.lst (vs ++ [v]))) (.ref a) (.l (xs.set k (.l (ys ++ [.z y])))) := by
        rw [upd_del]
        refine .l (M' := upd Mc b (.lst (vs ++ [v]))) (by rw [upd_ne ab]; exact h1) (upd_mono h2) (by rw [upd_ne ab]; exact h3) rs
      have dcv : Dj (del M1 b) Mv := dv1.symm.sub (del_same _ _) (Same.refl _)
      obtain ⟨M', st2, _⟩ := st.close (Mc := del M1 b) (Mc' := del M1 b) (Mr := Mv) d e1 s1 s2 dd q back m1b (del_same _ _) (del_at _ _) jn_l (jn_r dcv) dcv rr
      exact ⟨M', st2⟩
def napO (k : Nat) (y : D) (ts : List T) (i : Nat) : Option T → R T
  | some (.l xs) => match xs[k]? with
    | some (.l ys) => if ys.length < lim ∧ flatD y = true then .ok (.z .non) (ts.set i (.l (xs.set k (.l (ys ++ [.z y]))))) else .bad
    | _ => .bad
  | _ => .bad
def ixT (j : Int) : Option T → Option Nat
  | some (.l xs) => ixN xs.length j
  | _ => none
def napD (i : Nat) (ts : List T) (d : D) (y : Option D) : R T := match toI d, y with
  | some j, some y => match ixT j ts[i]? with
    | some k => napO k y ts i ts[i]?
    | none => .bad
  | _, _ => .bad
def napM (i : Nat) (mk : M D) (mc : List T → Option D) : M T := fun ts => if isL i ts = true then (mk >>= fun d ts1 => napD i ts1 d (mc ts1)) ts else .bad
theorem pe_napM {X : Cx} {W : WX} {e b : Expr} {x : Str} {p pos apos cpos : Pos} {i : Nat} {mk : M D} {mc : List T → Option D} (hu : X.A.units + 1 < cLine) (hN : X.N[i]? = some x) (hv : Vis X.env.scope x) (hd : (x == ("__debug__" : Str)) = false) (hcd : (x == ("__classdict__" : Str)) = false)
    (hk : PE X b (tZ (gx X) W mk)) (hm : PlainIx b) (he : PE X e (tAt (gx X) mc)) (hbase : attributeBase (.Subscript (.Name x p) b pos) "append" X.env (eval (.Subscript (.Name x p) b pos) X.env) = eval (.Subscript (.Name x p) b pos) X.env) (n : nst e = true) (hl : (apos.endLine == cpos.line) = true) :
    PE X (.Call (.Attribute (.Subscript (.Name x p) b pos) "append" apos) [e] [] cpos) (tD (gx X) W (napM i mk mc)) :=
  pe_imp (pe_bm PySem.F.plainAttrs_list PySem.F.slot_list_append PySem.F.type_list_append mt_append (pe_ix (ix_all hu) (pe_var hN hv hd hcd) hk hm) (pa_cons he pa_nil (star_of n _ _)) hbase (few1 n _ _) hl (star_of n _ _) rfl) fun σ H Q ⟨F, Mm, G, ts, st, k⟩ => by
    have k : KD (gx X) W F G σ Q (napM i mk mc ts) := k
    unfold napM at k
    by_cases hi : isL i ts = true
    · rw [if_pos hi] at k
      obtain ⟨xs0, e0⟩ := isL_eq hi
      obtain ⟨a, ws0, Mc0, e1, hH0, _⟩ := Sta.lst (Mv := em) st Dj.em_l e0
      refine ⟨.ref a, e1, ?_⟩
      refine tZ_then (K := KD (gx X) W F G σ Q) st id (fun _ _ z => z) k fun d ts1 _ k1 F1 M1 H1 v s1 r st1 => ?_
      unfold napD at k1
      cases q1 : toI d with
      | none => rw [q1] at k1; exact k1.elim
      | some j =>
        rw [toI_eq q1] at r
        cases r
        cases q2 : mc ts1 with
        | none => rw [q1, q2] at k1; exact k1.elim
        | some y =>
          rw [q1, q2] at k1
          dsimp only at k1
          cases q3 : ts1[i]? with
          | none => rw [q3] at k1; exact k1.elim
          | some u =>
            cases u with
            | l xs =>
              rw [q3] at k1
              unfold ixT at k1
              dsimp only at k1
              cases q4 : ixN xs.length j with
              | none => rw [q4] at k1; exact k1.elim
              | some kk =>
                rw [q4] at k1
                unfold napO at k1
                dsimp only at k1
                cases q5 : xs[kk]? with
                | none => rw [q5] at k1; exact k1.elim
                | some w =>
                  cases w with
                  | l ys =>
                    rw [q5] at k1
                    dsimp only at k1
                    by_cases hz : ys.length < lim ∧ flatD y = true
                    · rw [if_pos hz] at k1
                      obtain ⟨a', ws, b', vs, e2, hH, lw, ewk, hb, lv, fin⟩ := Sta.lst2 (Mv := em) st1 Dj.em_l q3 q5
                      rw [e1] at e2; cases e2
                      have at_ : atI ws j = some (.ref b') := by unfold atI; rw [lw, q4]; exact ewk
                      refine .inl (.inl ⟨a, ws, j, .ref b', rfl, rfl, .of hH, at_, tyL (g := gx X) hb, ?_⟩)
                      refine ⟨F1, M1, G, ts1, y, st1, q2, fun u hu => ?_⟩
                      obtain ⟨M', st2⟩ := fin u y (hu.flat hz.2)
                      exact ⟨b', vs, u, rfl, rfl, hb, by rw [lv]; exact lim_lt' hz.1, k1 F1 em M' _ _ s1 (.z .non) st2 Dj.em_l⟩
                    · rw [if_neg hz] at k1; exact k1.elim
                  | _ => rw [q5] at k1; exact k1.elim
            | _ => rw [q3] at k1; exact k1.elim
    · rw [if_neg hi] at k; exact k.elim
/-! running them -/
@[simp] theorem napM_ap (i mk mc ts) : napM i mk mc ts = if isLO ts[i]? = true then (mk ts).and fun d ts1 => napD i ts1 d (mc ts1) else .bad := by
  unfold napM
  have : isL i ts = isLO ts[i]? := by unfold isL isLO; rfl
  rw [this]
  split
  · rw [bind_ap]
  · rfl
theorem napD_at {i : Nat} {ts : List T} {j : Int} {y : D} {xs ys : List T} {k : Nat} (h : ts[i]? = some (.l xs)) (hk : ixN xs.length j = some k) (hy : xs[k]? = some (.l ys)) (hl : ys.length < lim) (hf : flatD y = true) :
    napD i ts (.int j) (some y) = .ok (.z .non) (ts.set i (.l (xs.set k (.l (ys ++ [.z y]))))) := by
  unfold napD
  show (match ixT j ts[i]? with | some k => napO k y ts i ts[i]? | none => .bad) = _
  rw [h]
  unfold ixT
  dsimp only
  rw [hk]
  unfold napO
  dsimp only
  rw [hy]
  dsimp only
  rw [if_pos ⟨hl, hf⟩]
@[simp] theorem compO_ap (mi vs put mc me ts) : compO mi vs put mc me ts = (mi ts).and fun ds ts1 => (compRO vs put mc me ds ts1).and fun l ts2 => if l.length ≤ lim then .ok (.l l) ts2 else .bad := by
  unfold compO; rw [bind_ap]; congr 1; funext ds ts1; rw [bind_ap]; congr 1; funext l ts2; split <;> rfl
end Ar
/-! ArPa: sorted() of a list of pairs. -/
namespace Ar
open PySem PySem.Spec PyProof.Rows L2
def okP (p : Int × Int) : Prop := (0 ≤ p.1 ∧ p.1 < 64) ∧ 0 ≤ p.2 ∧ p.2 < 64
instance (p) : Decidable (okP p) := by unfold okP; infer_instance
section
variable {g : Gx} {F : Hp}
end
section
variable {X : Cx} {W : WX} {a : Expr} {p pos : Pos} {ma : M D}
end
end Ar
/-! ArPb: tables of the module, calls of a local that holds a def, displays with text keys, extend. -/
namespace Ar
open PySem PySem.Spec PyProof.Rows L2
def lookS {α : Type} (tab : List (Str × α)) (z : Str) : Option α := (tab.find? fun p => decide (p.1 = z)).map (·.2)
def KTab (K : PySem.W.Frag) (w : World) (mg : Str → Option Value) (x : Str) (tab : List (Str × D)) : Prop :=
  ∃ d es n, mg x = some (.ref d) ∧ KDict K w d es n ∧ (∀ z, lookS tab z = none → PySem.W.nsIn K d z = some none) ∧
    ∀ z dv, lookS tab z = some dv → ∃ u v, PySem.W.nsIn K d z = some (some u) ∧ RelV v u ∧ ∀ (P : Program) (F : Hp), Rp ⟨K, mg, P, w⟩ F v dv
def isFnD (x : Str) : D → Bool
  | .fn y => decide (y = x)
  | _ => false
def oInG (x : Str) (tab : List (Str × D)) (a b : D) : Option T := if isFnD x b = true then (match a with | .str z => some (.z (.bl (lookS tab z).isSome)) | _ => none) else none
def oNotInG (x : Str) (tab : List (Str × D)) (a b : D) : Option T := if isFnD x b = true then (match a with | .str z => some (.z (.bl (!(lookS tab z).isSome))) | _ => none) else none
def oIxG (x : Str) (tab : List (Str × D)) (a b : D) : Option T := if isFnD x a = true then (match b with | .str z => (lookS tab z).map .z | _ => none) else none
theorem isFnD_eq {x : Str} {d : D} (h : isFnD x d = true) : d = .fn x := by
  cases d with
  | fn y => rw [show isFnD x (.fn y) = decide (y = x) from rfl, decide_eq_true_eq] at h; rw [h]
  | _ => cases h
theorem Vh.fnA {g : Gx} {F H : Hp} {v : V} {x : Str} {a : Addr} (h : Vh g F H v (.fn x)) (e : g.mg x = some (.ref a)) : v = .ref a := by
  cases h with
  | r h => cases h with
    | fn h => rw [e] at h; cases h; rfl
section
variable {X : Cx} {W : WX} {a b e : Expr} {es : List Expr} {p p1 pos apos cpos : Pos} {x : Str} {tab : List (Str × D)} {ma : M D}
theorem pe_gtab (h : KTab X.K X.w X.mg x tab) (hg : Gl X x) (hd : (x == ("__debug__" : Str)) = false) : PE X (.Name x p) (tAt (gx X) (kA (.fn x))) := by
  obtain ⟨d, es, n, e1, D, h0, h1⟩ := h
  exact e_kA (pe_glob (v := .ref d) hg e1 rfl hd) fun _ => .fn e1
theorem ktab_in {K : PySem.W.Frag} {w : World} {mg : Str → Option Value} {d : Addr} {tab : List (Str × D)} (z : Str) (h0 : ∀ z, lookS tab z = none → PySem.W.nsIn K d z = some none)
    (h1 : ∀ z dv, lookS tab z = some dv → ∃ u v, PySem.W.nsIn K d z = some (some u) ∧ RelV v u ∧ ∀ (P : Program) (F : Hp), Rp ⟨K, mg, P, w⟩ F v dv) : ∃ r, PySem.W.nsIn K d z = some r ∧ r.isSome = (lookS tab z).isSome := by
  cases q : lookS tab z with
  | none => exact ⟨none, h0 z q, rfl⟩
  | some dv =>
    obtain ⟨u, v, e, _⟩ := h1 z dv q
    exact ⟨some u, e, rfl⟩
theorem t_notInG (h : KTab X.K X.w X.mg x tab) (hg : Gl X x) (hd : (x == ("__debug__" : Str)) = false) (ha : PE X a (tV (gx X) W ma)) (hm : behindInMarks .NotIn (.Name x p) = false) : PT X (.Compare a [.NotIn] [.Name x p] pos) (tB (gx X) W (tsB (binA (oNotInG x tab) ma (kA (.fn x))))) := by
  have hb := pe_gtab (p := p) h hg hd
  obtain ⟨d, es, n, e1, D, h0, h1⟩ := h
  refine t_cmpA (op_notIn_kd D) ?_ ha hb hm
  intro F H x1 y1 dx dy t Q s hx hy k q
  unfold oNotInG at k
  split at k
  · rename_i hi
    have := isFnD_eq hi
    subst this
    split at k
    · rename_i z
      cases k
      obtain ⟨r, e2, e3⟩ := ktab_in z h0 h1
      refine ⟨z, r, hx.str, hy.fnA e1, e2, ?_⟩
      rw [e3]
      exact q.val (.bl _)
    · cases k
  · cases k
theorem e_ixG {mc : List T → Option D} (h : KTab X.K X.w X.mg x tab) (hg : Gl X x) (hd : (x == ("__debug__" : Str)) = false) (hb : PE X b (tAt (gx X) mc)) (hm : PlainIx b) : PE X (.Subscript (.Name x p) b pos) (tD (gx X) W (binA (oIxG x tab) (see (kA (.fn x))) mc)) := by
  have ha := pe_atv (W := W) (pe_gtab (p := p) h hg hd)
  obtain ⟨d, es, n, e1, D, h0, h1⟩ := h
  refine pe_ixA ix_kdict ?_ ha hb hm
  intro F H x1 y1 dx dy t Q s hx hy k q
  unfold oIxG at k
  split at k
  · rename_i hi
    have := isFnD_eq hi
    subst this
    split at k
    · rename_i z
      cases q1 : lookS tab z with
      | none => rw [q1] at k; cases k
      | some dv =>
        rw [q1] at k
        cases k
        obtain ⟨u, v, e2, rv, rp⟩ := h1 z dv q1
        exact ⟨d, z, v, hx.fnA e1, hy.str, ⟨es, n, u, D.at_, D.lit, e2, rv⟩, q.val (rp _ _)⟩
    · cases k
  · cases k
/-! a call of a local that holds one of several defs -/
def callD (i : Nat) (fs : List (Str × (List T → R T))) (tks : List (Option Nat)) (ms : M (List T)) : M T := fun ts => match ts[i]? with
  | some (.z (.fn x)) => (match lookS fs x with | some f => callM f tks ms ts | none => .bad)
  | _ => .bad
/-! {"a": 1, ..} -/
def PDc (X : Cx) (pos : Pos) (keys : List (Option Expr)) (values : List Expr) (kvs : List (Str × Int)) : Prop := ∃ trs, PPs X pos keys values trs ∧ ∀ σ H Q, Q (kvs.map fun q => (V.str q.1, V.int q.2)) H → tPairs trs σ H Q
theorem pd_nil : PDc X pos [] [] [] := ⟨[], pps_nil, fun _ _ _ h => h⟩
theorem pd_cons {k v : Expr} {keys : List (Option Expr)} {values : List Expr} {kvs : List (Str × Int)} {s : Str} {i : Int} (hk : PE X k (tC (.str s))) (hv : PE X v (tC (.int i))) (r : PDc X pos keys values kvs) : PDc X pos (some k :: keys) (v :: values) ((s, i) :: kvs) := by
  obtain ⟨trs, h, g⟩ := r
  refine ⟨_, pps_cons hk hv h, fun σ H Q q => ?_⟩
  exact g σ H _ q
def dspM (kvs : List (Str × Int)) : M T := fun ts => .ok (.dk (kvs.map fun q => (.inr q.1, .z (.int q.2)))) ts
theorem pe_dspM {keys : List (Option Expr)} {values : List Expr} {kvs : List (Str × Int)} (h : PDc X pos keys values kvs) (hall : keys.all (·.isSome) = true) (hl : keys.length = values.length) (h0 : keys ≠ []) (h15 : keys.length ≤ 15) (hk : kvs.length ≤ 15)
    (hm : mergeK [] (kvs.map fun q => (.inr q.1, V.int q.2)) = kvs.map fun q => (.inr q.1, V.int q.2)) : PE X (.Dict keys values pos) (tD (gx X) W (dspM kvs)) := by
  obtain ⟨trs, h, g⟩ := h
  refine pe_imp (pe_disp h hall hl h0 h15) fun σ H Q ⟨F, Mm, G, ts, st, kk⟩ => fun q hq => ?_
  refine g σ _ _ ⟨upd_same, kvs.map fun q => (.inr q.1, V.int q.2), by rw [List.map_map]; rfl, by rw [List.length_map]; exact hk, ?_⟩
  rw [hm]
  obtain ⟨st0, dj⟩ := st.newO (o := .dK []) hq
  obtain ⟨h2, st3, dj3⟩ := st0.turn (.dK (kvs.map fun q => (.inr q.1, V.int q.2))) dj
  refine kk F (upd em q (.dK (kvs.map fun q => (.inr q.1, V.int q.2)))) Mm _ _ (Same.refl _) (.dk (M' := em) upd_same Same.empty rfl (by rw [List.map_map, List.map_map]; rfl) ?_) st3 dj3
  have : ∀ l : List (Str × Int), ROs (gx X) F em ((l.map fun q => ((.inr q.1 : Key), V.int q.2)).map (·.2)) ((l.map fun q => ((.inr q.1 : Key), T.z (.int q.2))).map (·.2)) := fun l => by
    induction l with
    | nil => exact .nil
    | cons x l ih => exact .cons (M1 := em) (M2 := em) (.z (.int _)) ih (Same.refl _) (Same.refl _) Dj.em_l
  exact this kvs
/-! x.extend(list(e)) -/
def extM (i : Nat) (m : M D) : M T := fun ts => if isL i ts = true then (m >>= fun d ts1 => match d with
    | .lst ds => (match ts1[i]? with
      | some (.l xs) => if xs.length + ds.length ≤ lim then .ok (.z .non) (ts1.set i (.l (xs ++ ds.map .z))) else .bad
      | _ => .bad)
    | _ => .bad) ts else .bad
end
/-! a table of the module, by what the top has left -/
def EntOk (mg : Str → Option Value) (e : DictEntry) (p : Str × D) : Prop := (∃ t, e.key = .str p.1 t) ∧ ∃ v, RelV v e.val ∧ ∀ (K : PySem.W.Frag) (P : Program) (w : World) (F : Hp), Rp ⟨K, mg, P, w⟩ F v p.2
def EntsOk (mg : Str → Option Value) : List DictEntry → List (Str × D) → Prop
  | [], [] => True
  | e :: es, p :: ps => EntOk mg e p ∧ EntsOk mg es ps
  | _, _ => False
theorem ents_find {mg : Str → Option Value} (z : Str) : ∀ {es : List DictEntry} {ps : List (Str × D)}, EntsOk mg es ps →
    (lookS ps z = none → es.find? (fun e => e.key.isStr z) = none) ∧ (∀ dv, lookS ps z = some dv → ∃ e v, es.find? (fun e => e.key.isStr z) = some e ∧ RelV v e.val ∧ ∀ (K : PySem.W.Frag) (P : Program) (w : World) (F : Hp), Rp ⟨K, mg, P, w⟩ F v dv) ∧ es.any (·.refKey) = false
  | [], [], _ => ⟨fun _ => rfl, fun dv h => (by cases h), rfl⟩
  | e :: es, p :: ps, ⟨⟨⟨t, hk⟩, v, rv, rp⟩, h⟩ => by
    obtain ⟨i0, i1, i2⟩ := ents_find z h
    have hr : e.refKey = false := by unfold DictEntry.refKey; rw [hk]
    by_cases q : p.1 = z
    · have f : e.key.isStr z = true := by rw [hk, ← q]; exact beq_self_eq_true p.1
      have l : lookS (p :: ps) z = some p.2 := by unfold lookS; rw [List.find?_cons_of_pos (by simpa using q)]; rfl
      refine ⟨fun c => (by rw [l] at c; cases c), fun dv c => ?_, (by rw [List.any_cons, hr, i2]; rfl)⟩
      rw [l] at c
      cases c
      exact ⟨e, v, List.find?_cons_of_pos (p := fun e : DictEntry => e.key.isStr z) f, rv, rp⟩
    · have f : ¬ e.key.isStr z = true := by rw [hk]; intro c; exact q (eq_of_beq c)
      have l : lookS (p :: ps) z = lookS ps z := by unfold lookS; rw [List.find?_cons_of_neg (by simpa using q)]
      rw [l, List.find?_cons_of_neg (p := fun e : DictEntry => e.key.isStr z) f]
      exact ⟨i0, i1, (by rw [List.any_cons, hr, i2]; rfl)⟩
theorem ktab_mk {K : PySem.W.Frag} {w : World} {h : Heap} {mg : Str → Option Value} {x : Str} {d : Addr} {es : Array DictEntry} {n : Nat} {tab : List (Str × D)} (X : K.In h) (G : h.Ns mainGlobals mg) (gd : PySem.W.nsIn K mainGlobals x = some (some (.ref d)))
    (lk : K.lookup d = some ⟨.type "dict", none, .dict es n, #[]⟩) (kl : PySem.W.KeysLit w.params es.toList) (low : (d == sysModules) = false) (eo : EntsOk mg es.toList tab) : KTab K w mg x tab := by
  refine ⟨d, es, n, PySem.W.mg_of X G gd, ⟨lk, kl, low⟩, fun z q => ?_, fun z dv q => ?_⟩
  · obtain ⟨i0, _, i2⟩ := ents_find z eo
    unfold PySem.W.nsIn
    rw [lk]
    dsimp only
    rw [i0 q]
    dsimp only
    rw [i2]; rfl
  · obtain ⟨_, i1, _⟩ := ents_find z eo
    obtain ⟨e, v, e1, rv, rp⟩ := i1 dv q
    refine ⟨e.val, v, ?_, rv, fun P F => rp K P w F⟩
    unfold PySem.W.nsIn
    rw [lk]
    dsimp only
    rw [e1]
theorem ent_int {mg : Str → Option Value} {hs : Int} {s : Str} {t u : Tok} {i : Int} : EntOk mg ⟨hs, .str s t, .int i u⟩ (s, .int i) := ⟨⟨t, rfl⟩, .int i, ⟨u, rfl⟩, fun _ _ _ _ => .int i⟩
/-! tuple(range(a, b)) -/
section
variable {X : Cx} {W : WX} {a b : Expr} {p pos : Pos}
def oTR2 (d e : D) : Option T := match d, e with
  | .int i, .int j => if RgOk i j then some (.z (.tup (upto i j))) else none
  | _, _ => none
end
@[simp] theorem oTR2_int (i j) : oTR2 (.int i) (.int j) = if RgOk i j then some (.z (.tup (nD (uI i j)))) else none := by
  show (if RgOk i j then some (T.z (.tup (upto i j))) else none) = _
  rw [upto_nD]
def exT (i : Nat) (ds : List D) (ts : List T) : Option T → R T
  | some (.l xs) => if xs.length + ds.length ≤ lim then .ok (.z .non) (ts.set i (.l (xs ++ ds.map .z))) else .bad
  | _ => .bad
def exD (i : Nat) (ts : List T) : D → R T
  | .lst ds => exT i ds ts ts[i]?
  | _ => .bad
@[simp] theorem exD_lst (i ts ds) : exD i ts (.lst ds) = exT i ds ts ts[i]? := rfl
@[simp] theorem exT_l (i ds ts xs) : exT i ds ts (some (.l xs)) = if xs.length + ds.length ≤ lim then .ok (.z .non) (ts.set i (.l (xs ++ ds.map .z))) else .bad := rfl
@[simp] theorem extM_ap (i m ts) : extM i m ts = if isLO ts[i]? = true then (m ts).and fun d ts1 => exD i ts1 d else .bad := by
  unfold extM
  have e1 : isL i ts = isLO ts[i]? := by
    unfold isL isLO
    cases ts[i]? with
    | none => rfl
    | some t => cases t <;> rfl
  rw [e1]
  split
  · rw [bind_ap]
    congr 1
  · rfl
def cdT (fs : List (Str × (List T → R T))) (tks : List (Option Nat)) (ms : M (List T)) (ts : List T) : Option T → R T
  | some (.z (.fn x)) => (match lookS fs x with | some f => callM f tks ms ts | none => .bad)
  | _ => .bad
def cdF (tks : List (Option Nat)) (ms : M (List T)) (ts : List T) : Option (List T → R T) → R T
  | some f => callM f tks ms ts
  | none => .bad
@[simp] theorem cdT_fn (fs tks ms ts x) : cdT fs tks ms ts (some (.z (.fn x))) = cdF tks ms ts (lookS fs x) := by
  show (match lookS fs x with | some f => callM f tks ms ts | none => R.bad) = _
  cases lookS fs x <;> rfl
@[simp] theorem cdF_some (tks ms ts f) : cdF tks ms ts (some f) = callM f tks ms ts := rfl
@[simp] theorem callD_ap (i fs tks ms ts) : callD i fs tks ms ts = cdT fs tks ms ts ts[i]? := by
  unfold callD cdT
  rfl
@[simp] theorem dspM_ap (kvs ts) : dspM kvs ts = .ok (.dk (kvs.map fun q => (.inr q.1, .z (.int q.2)))) ts := rfl
@[simp] theorem oInG_fn (x tab z) : oInG x tab (.str z) (.fn x) = some (.z (.bl (lookS tab z).isSome)) := by
  unfold oInG
  rw [if_pos (by show decide (x = x) = true; exact decide_eq_true rfl)]
@[simp] theorem oNotInG_fn (x tab z) : oNotInG x tab (.str z) (.fn x) = some (.z (.bl (!(lookS tab z).isSome))) := by
  unfold oNotInG
  rw [if_pos (by show decide (x = x) = true; exact decide_eq_true rfl)]
@[simp] theorem oIxG_fn (x tab z) : oIxG x tab (.fn x) (.str z) = (lookS tab z).map .z := by
  unfold oIxG
  rw [if_pos (by show decide (x = x) = true; exact decide_eq_true rfl)]
section
variable {P : Program} {w : World} {K : PySem.W.Frag} {mg : Str → Option Value} {base : Heap} {k : Nat} {ps : List Str}
end
end Ar
/-! ArPl: min() of a list of tuples of whole numbers; a text split. -/
namespace Ar
open PySem PySem.Spec PyProof.Rows L2
section
variable {g : Gx} {F : Hp}
end
section
variable {X : Cx} {W : WX} {a : Expr} {p pos : Pos} {ma : M D}
end
def oSplit (x y : D) : Option T := match x, y with
  | .str a, .str b => if (b.length == 0) = false ∧ a.length + 2 ≤ lim then some (.l ((sD (Txt.split a b)).map T.z)) else none
  | _, _ => none
theorem RpAll.strsD {g : Gx} {F : Hp} : ∀ l : List Str, RpAll g F (l.map V.str) (sD l)
  | [] => .nil
  | x :: l => .cons (.str x) (RpAll.strsD l)
section
variable {X : Cx} {W : WX} {o e : Expr} {apos cpos : Pos} {ma mb : M D}
theorem c_split (ho : PE X o (tZ (gx X) W ma)) (he : PE X e (tV (gx X) W mb)) (hbase : attributeBase o "split" X.env (eval o X.env) = eval o X.env) (n : nst e = true) (hl : (apos.endLine == cpos.line) = true) :
    PE X (.Call (.Attribute o "split" apos) [e] [] cpos) (tD (gx X) W (binZ oSplit (recvS ma) mb)) :=
  pe_imp (pe_bm PySem.F.plainAttrs_str PySem.F.slot_str_split PySem.F.type_str_split mt_split ho (pa_cons he pa_nil (star_of n _ _)) hbase (few1 n _ _) hl (star_of n _ _) rfl) fun σ H Q ⟨F, Mm, G, ts, st, k⟩ => by
    unfold binZ at k
    refine recv_then st k fun a ts1 k1 F1 M1 H1 s1 st1 => ⟨rfl, ?_⟩
    refine tV_then (K := KD (gx X) W F1 G σ Q) st1 id (fun _ _ z => z) (KD.mono s1 k1) fun y ts2 _ k2 F2 M2 H2 v2 s2 r2 st2 => ?_
    obtain ⟨t, q, out⟩ := KD.opt st2 (KD.mono s2 k2)
    cases y with
    | str b =>
      unfold oSplit at q
      dsimp only at q
      split at q
      · rename_i h
        cases q
        cases r2 with
        | r r2 =>
          cases r2
          exact ⟨a, b, rfl, rfl, h.1, lim_le h.2, out.new (RpAll.strsD _)⟩
      · cases q
    | _ => cases q
end
@[simp] theorem oSplit_str (a b) : oSplit (.str a) (.str b) = if (b.length == 0) = false ∧ a.length + 2 ≤ lim then some (.l (sT (Txt.split a b))) else none := by
  rw [← sD_sT]; rfl
end Ar
/-! ArPm: a try whose first clause, with a name, takes all that its body raises; what stands behind it is never asked. -/
namespace Ar
open PySem PySem.Spec PyProof.Rows L2
/-- what is asked of an exception: class C takes it; slot i is the clause's name -/
def wFst (K : PySem.W.Frag) (C : Value) (i : Nat) (su : Addr → Value → Option Addr → TS) (D : Ends) : WX := fun k d σ H =>
  PySem.W.exmOne K k C = some true ∧ ∀ a, H a = none → su a k d ⟨fun σ' H' => D.nx (σ'.set i none) H', D.rt, fun σ' H' => D.bk (σ'.set i none) H', fun σ' H' => D.ct (σ'.set i none) H'⟩ (σ.set i (some (.ref a))) H
theorem sky_off {X : Cx} {B : Heap} {h : Heap} {a : Addr} {o : Obj} {vs : Array Value} (ff : h.FunFrames B (X.env :: X.outer)) (e : h.get? a = some o) (dd : o.data = .fields vs) : a ∉ frs (X.env :: X.outer) := fun z => by
  obtain ⟨_, o', e', n⟩ := ff.mem z
  cases e.symm.trans e'
  exact n _ dd
section
variable {X : Cx} {x n : Str} {C : Value} {i : Nat} {body suite : List Stmt} {b₀ : Stmt} {np pos pos' : Pos} {tb : WX → TS} {su : Addr → Value → Option Addr → TS} {more : List ExceptHandler}
theorem ps_try_fst (stk : X.stack = X.env :: X.outer) (fr : X.env.frame = some X.env.locals) (nd : X.N.Nodup) (at_ : X.N[i]? = some n) (loc : X.env.kindOf n = some .local) (nm : Names X x C)
    (B : ∀ (W : WX) (pn : List (Addr × Obj)) (xe : Value → Shared → Prop), Takes (X.tr pn xe) W → PassesOwn (model X.prog X.w) X.A X.env xe → PSs (X.tr pn xe) body (tb W))
    (U : ∀ (a : Addr) (oe : Obj) (k : Value) (d : Option Addr) (pn : List (Addr × Obj)), Zc k d oe → (∃ vs, oe.data = .fields vs) → PSs (X.suite a ((a, oe) :: pn)) (b₀ :: suite) (su a k d)) :
    PS X (.Try body (.ExceptHandler (some (.Name x np)) (some n) (b₀ :: suite) pos' :: more) [] [] pos) (fun D σ H => tb (wFst X.K C i su D) D σ H) := by
  refine ⟨fun pins s σ H D I h => wpAny_Try_except ?_⟩
  have ok := I.ok
  have AF : X.A.frames = some (X.env :: X.outer) := by rw [ok.frames, stk]
  have run := (B (wFst X.K C i su D) (X.pn ++ pins) (fun e s₁ => wpAny (model X.prog X.w) X.A (noteFrame e X.env) (fun _ s₂ => wpAny (model X.prog X.w) X.A (setFlight e none) (fun _ s₃ =>
    wpAny (model X.prog X.w) X.A (handleBy e X.env (.ExceptHandler (some (.Name x np)) (some n) (b₀ :: suite) pos' :: more)) (SP X pins D) X.xe s₃) X.xe s₂) X.xe s₁) ?caught PassesOwn.looking).run [] s σ H D (I.toTry _) h
  case caught =>
    rintro _ s' ⟨a, G0, sI, pins', σ', H', k, d, rfl, J0, nb, up, sky0, na, os, ag, e1, yes⟩
    have J : Inv X pins σ' H' sI := J0.ofTry ok
    rw [stk] at sky0
    show wpAny (model X.prog X.w) X.A (noteFrame (.ref a) X.env) _ _ _
    refine Sky.land Zc.steady AF fr sky0 fun h3 fl3 up3 => ?_
    have J3 : Inv X pins σ' H' { s' with heap := h3 } := J.landed nb fl3.1 (up.trans up3) os ag
    obtain ⟨o3, v3, t3, z3, d3⟩ := fl3.there
    have off := sky_off (X := X) fl3.2.2.1 t3 d3
    have offL : a ≠ X.env.locals := fun z => off (List.mem_filterMap.mpr ⟨X.env, List.mem_cons_self, fr.trans (congrArg some z.symm)⟩)
    have offF : a ∉ X.fs := fun hm => by
      obtain ⟨v, hv, q⟩ := List.mem_filterMap.mp hm
      exact off (List.mem_filterMap.mpr ⟨v, .tail _ hv, q⟩)
    have S3 := J3.suite t3 d3 na offL offF
    refine wpAny_handleBy_cons (codeAny_handlers_test ?_) (fun q => nomatch q)
    have see : ∀ {Q : Value → Shared → Prop} {E : Value → Shared → Prop}, Q C { s' with heap := h3 } → wpAny (model X.prog X.w) (X.A.mark (some (.ref a))) (eval (.Name x np) X.env) Q E { s' with heap := h3 } := fun q => by
      rcases nm with ⟨g1, g2, g3 | ⟨g3, g4, g5⟩⟩
      · exact ld_glob (X := X.suite a ((a, o3) :: (X.pn ++ pins))) S3 g1 g3 q g2
      · exact ld_blt (X := X.suite a ((a, o3) :: (X.pn ++ pins))) S3 g1 g3 g4 q g5 g2
    have looks : PySem.W.Looks (model X.prog X.w) h3 (typeOf (.ref a)) k := fun _ _ _ _ kk q => wpAny_typeOf_ref (kk _ _ t3) (z3.1 ▸ q)
    refine see ((PySem.W.exm_one (M := model X.prog X.w) J3.kIn looks e1).here ?_)
    refine codeAny_handlers_suite_as (HandSPX.lands_againZ fl3 fun h4 fl4 up4 => ?_)
    have J4 : Inv X pins σ' H' { s' with heap := h4 } := J.landed nb fl4.1 ((up.trans up3).trans up4) os ag
    obtain ⟨o4, v4, t4, z4, d4⟩ := fl4.there
    refine store_ok (X := X.suite a ((a, o4) :: (X.pn ++ pins))) (v := .ref a) (J4.suite t4 d4 na offL offF) nd at_ (.inl loc) rfl (fun s5 S5 => ?_) (.inr loc)
    refine wpAny_mono ((U a o4 k d (X.pn ++ pins) z4 ⟨v4, d4⟩).run [] s5 _ H' _ S5 (yes a na)) (fun f s6 out => ?_) (fun _ _ z => z.elim)
    have shut : ∀ {σ6 : L2.St} {H6 : Hp} {Q : Shared → Prop}, Inv (X.suite a ((a, o4) :: (X.pn ++ pins))) [] σ6 H6 s6 → (∀ s7, Inv X pins (σ6.set i none) H6 s7 → Q s7) →
        wpAny (model X.prog X.w) X.A (do bindName X.env n .none; unbindBehindTheSuite X.env n pos') (fun _ s7 => Q s7) X.xe s6 := fun S6 q => gone_ok (S6.unsuite ok) nd at_ loc q
    cases f with
    | ret u => obtain ⟨v6, σ6, H6, S6, r6, q6⟩ := out; exact shut S6 fun s7 J7 => ⟨v6, _, H6, J7, r6, q6⟩
    | next => obtain ⟨σ6, H6, S6, q6⟩ := out; exact shut S6 fun s7 J7 => ⟨_, H6, J7, q6⟩
    | brk => obtain ⟨σ6, H6, S6, q6⟩ := out; exact shut S6 fun s7 J7 => ⟨_, H6, J7, q6⟩
    | cont => obtain ⟨σ6, H6, S6, q6⟩ := out; exact shut S6 fun s7 J7 => ⟨_, H6, J7, q6⟩
  refine wpAny_mono run (fun f s1 out => ?_) (fun _ _ z => z)
  cases f with
  | ret u => obtain ⟨v, σ', H', J', r, q⟩ := out; exact ⟨v, σ', H', J'.ofTry ok, r, q⟩
  | next => obtain ⟨σ', H', J', q⟩ := out; exact wpAny_execs_nil ⟨σ', H', J'.ofTry ok, q⟩
  | brk => obtain ⟨σ', H', J', q⟩ := out; exact ⟨σ', H', J'.ofTry ok, q⟩
  | cont => obtain ⟨σ', H', J', q⟩ := out; exact ⟨σ', H', J'.ofTry ok, q⟩
end
/-! the mirror -/
def tryF (i : Nat) (cat : Str → Option Bool) (m : S) (s : Str → S) : S := fun ts => match m ts with
  | .ex e ts' => (match cat e with
    | some true => if i < ts'.length then fixT i (s e (ts'.set i .gone)) else .bad
    | _ => .bad)
  | r => r
section
variable {X : Cx} {W : WX} {bs : List Nat} {pos np pos' : Pos} {y n : Str} {i : Nat} {body suite : List Stmt} {b₀ : Stmt} {m : S} {s : Str → S} {cat : Str → Option Bool} {more : List ExceptHandler}
theorem ps_tryF (hs : X.stack = X.env :: X.outer) (hfr : X.env.frame = some X.env.locals) (hN : X.N.Nodup) (hi : X.N[i]? = some n) (hln : X.env.kindOf n = some .local) (hg : Gl X y) (hd : (y == ("__debug__" : Str)) = false) (hC : CatT X.K X.mg y cat) (hib : i ∉ bs)
    (hb : ∀ (W' : WX) (pn : List (Addr × Obj)) (xe : Value → Shared → Prop), Takes (X.tr pn xe) W' → PassesOwn (model X.prog X.w) X.A X.env xe → PSs (X.tr pn xe) body (tS (gx X) W' bs m))
    (hsu : ∀ (e : Str) (a : Addr) (oe : Obj) (C : Addr) (pn : List (Addr × Obj)), X.mg e = some (.ref C) → Zc (.ref C) none oe → (∃ vs, oe.data = .fields vs) → PSs (X.suite a ((a, oe) :: pn)) (b₀ :: suite) (tX i a (tS (gx X) W0 (i :: bs) (s e)))) :
    PS X (.Try body (.ExceptHandler (some (.Name y np)) (some n) (b₀ :: suite) pos' :: more) [] [] pos) (tS (gx X) W bs (tryF i cat m s)) := by
  obtain ⟨D0, hD, hcat⟩ := hC
  refine ps_imp (ps_try_fst (C := .ref D0) (tb := fun W' => tS (gx X) W' bs m) (su := fun a k d D σ H => ∃ e C, X.mg e = some (.ref C) ∧ k = .ref C ∧ d = none ∧ tX i a (tS (gx X) W0 (i :: bs) (s e)) D σ H) hs hfr hN hi hln ⟨hg, hd, .inl hD⟩ hb
    (fun a oe k d pn hz hf => ⟨fun pins s1 σ H D I ⟨e, C, he, hk, hdd, q⟩ => by
      subst hk; subst hdd
      exact (hsu e a oe C pn he hz hf).run pins s1 σ H D I q⟩)) fun D σ H ⟨F, Mm, G, ts, sa, k⟩ => ⟨F, Mm, G, ts, sa, ?_⟩
  have k : KS (gx X) W bs F G σ D (tryF i cat m s ts) := k
  unfold tryF at k
  cases q : m ts with
  | bad => rw [q] at k; exact k
  | nx t => rw [q] at k; exact k
  | bk t => rw [q] at k; exact k
  | ct t => rw [q] at k; exact k
  | rt v t => rw [q] at k; exact k
  | ex e us =>
    rw [q] at k
    intro F1 M1 H1 σ1 C s1 st1 p1 he
    have lu : σ1.length = us.length := st1.len
    cases qc : cat e with
    | none => simp only [qc] at k; exact k.elim
    | some b => cases b with
      | false => simp only [qc] at k; exact k.elim
      | true =>
        simp only [qc] at k
        by_cases hl : i < us.length
        · rw [if_pos hl] at k
          refine ⟨hcat e true C qc he, fun a _ => ⟨e, C, he, rfl, rfl, List.getElem?_set_self (by omega), F1, M1, G, us.set i .gone, st1.gone, ?_⟩⟩
          have off : ∀ {j}, j ∈ bs → i ≠ j := fun hj z => hib (z ▸ hj)
          have pr : ∀ {σ2 : L2.St}, Pin (i :: bs) (σ1.set i (some (.ref a))) σ2 → Pin bs σ σ2 := fun hp j hj => by
            rw [hp j (.tail _ hj), List.getElem?_set_ne (off hj), p1 j hj]
          have pw : ∀ {σ2 : L2.St}, Pin (i :: bs) (σ1.set i (some (.ref a))) σ2 → Pin bs σ (σ2.set i none) := fun hp j hj => by
            rw [List.getElem?_set_ne (off hj)]; exact pr hp j hj
          cases qs : s e (us.set i .gone) with
          | bad => rw [qs] at k; exact k.elim
          | ex c t => rw [qs] at k; exact k.elim
          | rt v t => rw [qs] at k; intro F2 Mv M2 H2 σ2 v2 s2 r2 st2 dj p2; exact k F2 Mv M2 H2 σ2 v2 (s1.trans s2) r2 st2 dj (pr p2)
          | nx t => rw [qs] at k; intro F2 M2 H2 σ2 s2 st2 p2; exact k F2 M2 H2 _ (s1.trans s2) st2.gone (pw p2)
          | bk t => rw [qs] at k; intro F2 M2 H2 σ2 s2 st2 p2; exact k F2 M2 H2 _ (s1.trans s2) st2.gone (pw p2)
          | ct t => rw [qs] at k; intro F2 M2 H2 σ2 s2 st2 p2; exact k F2 M2 H2 _ (s1.trans s2) st2.gone (pw p2)
        · rw [if_neg hl] at k; exact k.elim
end
/-! if, of what isinstance tells -/
def tKt (i : Nat) (a : Addr) (b : Bool) : TT := fun σ H Q => σ[i]? = some (some (.ref a)) ∧ Q b H
def KT (X : Cx) (ex : Expr) (i : Nat) (a : Addr) (o : Option Bool) : Prop := ∀ b, o = some b → PT X ex (tKt i a b)
def KW (X : Cx) (ex : Expr) (i : Nat) (a : Addr) (o : Option Bool) : Prop := ∀ b, o = some b → PW X ex (tKt i a b)
section
variable {X : Cx} {W : WX} {bs : List Nat} {pos : Pos} {i : Nat} {a : Addr} {o q : Option Bool} {ex fx : Expr} {es : List Expr} {m n : S} {b1 b2 : List Stmt}
theorem kt_val (h : KE X ex i a o) (he : ∀ whole, isTrue ex X.env whole = (do let v ← whole; standAt ex.pos; holding [v] (truthy v))) : KT X ex i a o := fun b hb =>
  ⟨fun pins s σ H Q I ⟨f, k⟩ => (pt_val (h b hb) he).run pins s σ H Q I ⟨f, b, rfl, k⟩⟩
theorem kt_not (h : KT X ex i a o) : KT X (.UnaryOp .Not ex pos) i a (oNot o) := fun b hb => by
  cases o with
  | none => cases hb
  | some c => cases hb; exact ⟨fun pins s σ H Q I ⟨f, k⟩ => (pt_not (h c rfl)).run pins s σ H Q I ⟨f, k⟩⟩
theorem kt_w (h : KW X ex i a o) : KT X ex i a o := fun b hb => (h b hb).pt
theorem kw_or1 (h : KT X ex i a o) : KW X (.BoolOp .Or [ex] pos) i a o := fun b hb => pw_or1 (h b hb)
theorem kw_or (h : KT X ex i a o) (h2 : KW X (.BoolOp .Or (fx :: es) pos) i a q) : KW X (.BoolOp .Or (ex :: fx :: es) pos) i a (oOr o q) := fun b hb => by
  cases o with
  | none => cases hb
  | some c => cases q with
    | none => cases hb
    | some d =>
      cases hb
      refine ⟨fun wh pins s σ H Q I ⟨f, k⟩ => (pw_or (h c rfl) (h2 d rfl)).run wh pins s σ H Q I ⟨f, ?_⟩⟩
      cases c with
      | true => exact k
      | false => exact ⟨f, k⟩
theorem ps_ifKE (h : KT X ex i a o) (h1 : PSs X b1 (tX i a (tS (gx X) W bs m))) (h2 : PSs X b2 (tX i a (tS (gx X) W bs n))) :
    PS X (.If ex b1 b2 pos) (tX i a (tS (gx X) W bs (bySome o fun b => if b = true then m else n))) := by
  cases o with
  | none => exact ps_X ps_badS
  | some b =>
    refine ⟨fun pins s σ H D I ⟨f, k⟩ => (ps_if (h b rfl) h1 h2).run pins s σ H D I ⟨f, ?_⟩⟩
    cases b with
    | true => exact ⟨f, k⟩
    | false => exact ⟨f, k⟩
end
/-! a list of what isinstance tells -/
section
variable {X : Cx} {W : WX} {bs : List Nat} {pos p pos' : Pos} {i : Nat} {a : Addr} {o : Option Bool} {os : List (Option Bool)} {ex : Expr} {es : List Expr}
end
end Ar
/-! ArPc: own objects: a field read; ways into an owned tree and back. -/
namespace Ar
open PySem PySem.Spec PyProof.Rows L2
/-! rows of keys and things -/
section
variable {κ α β : Type} [DecidableEq κ]
def getA (f : κ) : List (κ × α) → Option α
  | [] => none
  | (g, x) :: r => if g = f then some x else getA f r
def putA (f : κ) (v : α) : List (κ × α) → List (κ × α)
  | [] => [(f, v)]
  | (g, x) :: r => if g = f then (g, v) :: r else (g, x) :: putA f v r
theorem putA_same {f : κ} {v : α} : ∀ {l : List (κ × α)}, getA f l = some v → putA f v l = l
  | [], h => by cases h
  | (g, x) :: r, h => by
    rw [getA] at h
    rw [putA]
    by_cases q : g = f
    · rw [if_pos q] at h; cases h; rw [if_pos q]
    · rw [if_neg q] at h; rw [if_neg q, putA_same h]
theorem putA_keys {f : κ} {v : α} {t : β} : ∀ {xs : List (κ × α)} {ys : List (κ × β)}, xs.map (·.1) = ys.map (·.1) → (putA f v xs).map (·.1) = (putA f t ys).map (·.1)
  | [], [], _ => rfl
  | (a, x) :: xs, (b, y) :: ys, e => by
    rw [List.map_cons, List.map_cons] at e
    injection e with e1 e2
    simp only at e1
    subst e1
    rw [putA, putA]
    by_cases q : a = f
    · rw [if_pos q, if_pos q, List.map_cons, List.map_cons, e2]
    · rw [if_neg q, if_neg q, List.map_cons, List.map_cons, putA_keys e2]
  | [], _ :: _, e => by cases e
  | _ :: _, [], e => by cases e
end
theorem lookup_getA (f : Str) : ∀ l : List (Str × V), l.lookup f = getA f l
  | [] => rfl
  | (g, x) :: r => by
    rw [getA, List.lookup]
    by_cases q : g = f
    · subst q; rw [if_pos rfl]; simp
    · rw [if_neg q]
      have : (f == g) = false := by simpa using fun e => q e.symm
      rw [this]
      exact lookup_getA f r
theorem valV_getA (k : Key) : ∀ l : List (Key × V), valV l k = getA k l
  | [] => rfl
  | (g, x) :: r => by
    rw [getA, ← valV_getA k r]
    by_cases q : g = k
    · subst q; simp [valV]
    · rw [if_neg q]; simp [valV, List.find?, q]
section
variable {g : Gx} {F F' H M : Hp} {κ : Type} [DecidableEq κ]
theorem RpAll.getA {f : κ} {d : D} : ∀ {xs : List (κ × V)} {ys : List (κ × D)}, xs.map (·.1) = ys.map (·.1) → RpAll g F (xs.map (·.2)) (ys.map (·.2)) → Ar.getA f ys = some d → ∃ v, Ar.getA f xs = some v ∧ Rp g F v d
  | [], [], _, _, h => by cases h
  | (a, x) :: xs, (b, y) :: ys, e, r, h => by
    rw [List.map_cons, List.map_cons] at e r
    injection e with e1 e2
    simp only at e1
    subst e1
    rw [Ar.getA] at h
    cases r with
    | cons r1 r2 =>
      by_cases q : a = f
      · rw [if_pos q] at h
        cases h
        exact ⟨x, by rw [Ar.getA, if_pos q], r1⟩
      · rw [if_neg q] at h
        obtain ⟨v, h1, h2⟩ := RpAll.getA e2 r2 h
        exact ⟨v, by rw [Ar.getA, if_neg q]; exact h1, h2⟩
  | [], _ :: _, e, _, _ => by cases e
  | _ :: _, [], e, _, _ => by cases e
/-- one of an owned row of keys in the hand -/
theorem ROs.pickA {f : κ} {t : T} : ∀ {M : Hp} {xs : List (κ × V)} {ys : List (κ × T)}, xs.map (·.1) = ys.map (·.1) → ROs g F M (xs.map (·.2)) (ys.map (·.2)) → Ar.getA f ys = some t →
    ∃ v M1 M2, Ar.getA f xs = some v ∧ RO g F M1 v t ∧ Same M1 M ∧ Same M2 M ∧ Dj M1 M2 ∧
      ∀ F' M1' v' t' M', Same F F' → RO g F' M1' v' t' → Dj M1' M2 → Same M1' M' → Same M2 M' → ROs g F' M' ((putA f v' xs).map (·.2)) ((putA f t' ys).map (·.2))
  | _, [], [], _, _, h => by cases h
  | M, (a, x) :: xs, (b, y) :: ys, e, r, h => by
    rw [List.map_cons, List.map_cons] at e r
    injection e with e1 e2
    simp only at e1
    subst e1
    rw [Ar.getA] at h
    cases r with
    | @cons _ A B _ _ _ _ h1 h2 h3 h4 h5 =>
      by_cases q : a = f
      · rw [if_pos q] at h
        cases h
        refine ⟨x, A, B, by rw [Ar.getA, if_pos q], h1, h3, h4, h5, fun F' M1' v' t' M' s r d s1 s2 => ?_⟩
        rw [putA, putA, if_pos q, if_pos q, List.map_cons, List.map_cons]
        exact .cons r (h2.mono s) s1 s2 d
      · rw [if_neg q] at h
        obtain ⟨u, M1, M2, e1, r, s1, s2, d, back⟩ := ROs.pickA e2 h2 h
        have dA2 : Dj A M2 := h5.sub (Same.refl _) s2
        refine ⟨u, M1, jn A M2, by rw [Ar.getA, if_neg q]; exact e1, r, s1.trans h4, jn_sub h3 (s2.trans h4), dj_jn_r (h5.sub (Same.refl _) s1).symm d, fun F' M1' v' t' M' s r' d' sa sb => ?_⟩
        have dA1 : Dj A M1' := (d'.sub (Same.refl _) jn_l).symm
        have d12 : Dj M1' M2 := d'.sub (Same.refl _) (jn_r dA2)
        have k := back F' M1' v' t' (jn M1' M2) s r' d12 jn_l (jn_r d12)
        rw [putA, putA, if_neg q, if_neg q, List.map_cons, List.map_cons]
        exact .cons (M1 := A) (M2 := jn M1' M2) (h1.mono s) k (jn_l.trans sb) (jn_sub sa ((jn_r dA2).trans sb)) (dj_jn_r dA1 dA2)
  | _, [], _ :: _, e, _, _ => by cases e
  | _, _ :: _, [], e, _, _ => by cases e
end
/-! ### a field read -/
def oFld (c f : Str) : D → Option T
  | .ob c' fs => if c' = c then (getA f fs).map .z else none
  | _ => none
section
variable {X : Cx} {W : WX} {e : Expr} {pos : Pos} {ma : M D} {c f : Str} {ns : List Str}
end
@[simp] theorem oFld_ob (c f fs) : oFld c f (.ob c fs) = (getA f fs).map .z := if_pos rfl
@[simp] theorem getA_nil {κ α : Type} [DecidableEq κ] (f : κ) : getA f ([] : List (κ × α)) = none := rfl
end Ar
/-! ArPd: ways into an owned tree: what stands there, how it is changed. -/
namespace Ar
open PySem PySem.Spec PyProof.Rows L2
inductive Stp where
  | f (c x : Str) | k (s : Key)
/-- the way p leads from v to w -/
def PV (g : Gx) (H : Hp) : V → List Stp → V → Prop
  | v, [], w => w = v
  | v, .f c x :: p, w => ∃ a C dx fs u, v = .ref a ∧ H a = some (.ins C dx fs) ∧ g.mg c = some (.ref C) ∧ fs.lookup x = some u ∧ PV g H u p w
  | v, .k s :: p, w => ∃ a kvs u, v = .ref a ∧ Rd H a (.dK kvs) ∧ valV kvs s = some u ∧ PV g H u p w
section
variable {g : Gx} {F H H' : Hp}
theorem PV.mono (s : Same H H') : ∀ {p : List Stp} {v w : V}, PV g H v p w → PV g H' v p w
  | [], _, _, h => h
  | .f c x :: p, _, _, ⟨a, C, dx, fs, u, e, h1, h2, h3, h4⟩ => ⟨a, C, dx, fs, u, e, s _ _ h1, h2, h3, PV.mono s h4⟩
  | .k x :: p, _, _, ⟨a, kvs, u, e, h1, h2, h3⟩ => ⟨a, kvs, u, e, Same.rdm s h1, h2, PV.mono s h3⟩
theorem PV.trans : ∀ {p q : List Stp} {u v w : V}, PV g H u p v → PV g H v q w → PV g H u (p ++ q) w
  | [], _, _, _, _, h, k => by cases h; exact k
  | .f c x :: p, _, _, _, _, ⟨a, C, dx, fs, u, e, h1, h2, h3, h4⟩, k => ⟨a, C, dx, fs, u, e, h1, h2, h3, PV.trans h4 k⟩
  | .k x :: p, _, _, _, _, ⟨a, kvs, u, e, h1, h2, h3⟩, k => ⟨a, kvs, u, e, h1, h2, PV.trans h3 k⟩
theorem PV.split : ∀ {p q : List Stp} {u w : V}, PV g H u (p ++ q) w → ∃ v, PV g H u p v ∧ PV g H v q w
  | [], _, u, _, h => ⟨u, rfl, h⟩
  | .f c x :: p, _, _, _, ⟨a, C, dx, fs, u, e, h1, h2, h3, h4⟩ => by
    obtain ⟨v, k1, k2⟩ := PV.split h4
    exact ⟨v, ⟨a, C, dx, fs, u, e, h1, h2, h3, k1⟩, k2⟩
  | .k x :: p, _, _, _, ⟨a, kvs, u, e, h1, h2, h3⟩ => by
    obtain ⟨v, k1, k2⟩ := PV.split h3
    exact ⟨v, ⟨a, kvs, u, e, h1, h2, k1⟩, k2⟩
theorem rd_inj {H : Hp} {a : Addr} {u w : HO} (h : Rd H a u) (k : Rd H a w) (n1 : ∀ o z, u ≠ .frz o z) (n2 : ∀ o z, w ≠ .frz o z) : u = w := by
  rcases h with h | ⟨o, h⟩ <;> rcases k with k | ⟨o2, k⟩
  · rw [h] at k; cases k; rfl
  · rw [h] at k; cases k; exact absurd rfl (n1 _ _)
  · rw [h] at k; cases k; exact absurd rfl (n2 _ _)
  · rw [h] at k; cases k; rfl
theorem PV.inj : ∀ {p : List Stp} {v w w' : V}, PV g H v p w → PV g H v p w' → w = w'
  | [], _, _, _, h, k => by cases h; cases k; rfl
  | .f c x :: p, _, _, _, ⟨a, C, dx, fs, u, e, h1, h2, h3, h4⟩, ⟨a', C', dx', fs', u', e', h1', h2', h3', h4'⟩ => by
    rw [e] at e'; cases e'
    rw [h1] at h1'; cases h1'
    rw [h3] at h3'; cases h3'
    exact PV.inj h4 h4'
  | .k x :: p, _, _, _, ⟨a, kvs, u, e, h1, h2, h3⟩, ⟨a', kvs', u', e', h1', h2', h3'⟩ => by
    rw [e] at e'; cases e'
    have := rd_inj h1 h1' (fun _ _ z => nomatch z) (fun _ _ z => nomatch z)
    cases this
    rw [h2] at h2'; cases h2'
    exact PV.inj h3 h3'
end
section
variable {X : Cx} {e : Expr} {pos : Pos} {i : Nat} {p : List Stp}
end
/-! ### the way in an owned tree -/
def T.getO : T → List Stp → Option T
  | t, [] => some t
  | .ob c' fs, .f c x :: p => if c' = c then (match getA x fs with | some t => T.getO t p | none => none) else none
  | .dk kvs, .k s :: p => (match getA s kvs with | some t => T.getO t p | none => none)
  | _, _ => none
termination_by _ p => p.length
def T.putO : T → List Stp → T → T
  | _, [], u => u
  | .ob c fs, .f _ x :: p, u => (match getA x fs with | some t => .ob c (putA x (T.putO t p u) fs) | none => .ob c fs)
  | .dk kvs, .k s :: p, u => (match getA s kvs with | some t => .dk (putA s (T.putO t p u) kvs) | none => .dk kvs)
  | t, _, _ => t
termination_by _ p _ => p.length
@[simp] theorem getO_nil (t : T) : T.getO t [] = some t := by rw [T.getO]
@[simp] theorem putO_nil (t u : T) : T.putO t [] u = u := by rw [T.putO]
theorem getO_f (c' fs c x p) : T.getO (.ob c' fs) (.f c x :: p) = if c' = c then (match getA x fs with | some t => T.getO t p | none => none) else none := by rw [T.getO]
theorem getO_k (kvs s p) : T.getO (.dk kvs) (.k s :: p) = (match getA s kvs with | some t => T.getO t p | none => none) := by rw [T.getO]
theorem putO_f (c fs c' x p u) : T.putO (.ob c fs) (.f c' x :: p) u = (match getA x fs with | some t => .ob c (putA x (T.putO t p u) fs) | none => .ob c fs) := by rw [T.putO]
theorem putO_k (kvs s p u) : T.putO (.dk kvs) (.k s :: p) u = (match getA s kvs with | some t => .dk (putA s (T.putO t p u) kvs) | none => .dk kvs) := by rw [T.putO]
theorem getO_gone {p : List Stp} {t u : T} (h : T.getO t p = some u) (n : u ≠ .gone) : t ≠ .gone := by
  rintro rfl
  cases p with
  | nil => rw [getO_nil] at h; cases h; exact n rfl
  | cons s p => cases s <;> rw [T.getO] at h <;> first | cases h | (intros; simp_all)
section
variable {g : Gx} {F : Hp}
theorem RO.path : ∀ (p : List Stp) {M : Hp} {v : V} {t u : T}, RO g F M v t → T.getO t p = some u →
    ∃ w M1 M2, PV g M v p w ∧ RO g F M1 w u ∧ Same M1 M ∧ Same M2 M ∧ Dj M1 M2 ∧ ∀ F' M1' u' M', Same F F' → RO g F' M1' w u' → Dj M1' M2 → Same M1' M' → Same M2 M' → RO g F' M' v (T.putO t p u')
  | [], M, v, t, u, r, h => by
    rw [getO_nil] at h
    cases h
    exact ⟨v, M, em, rfl, r, Same.refl _, Same.empty, Dj.em_r, fun F' M1' u' M' _ r' _ s1 _ => by rw [putO_nil]; exact r'.ext s1⟩
  | .f c x :: p, M, v, t, u, r, h => by
    cases t with
    | ob c' ts =>
      rw [getO_f] at h
      by_cases hc : c' = c
      · rw [if_pos hc] at h
        subst hc
        cases q : getA x ts with
        | none => rw [q] at h; cases h
        | some t1 =>
          rw [q] at h
          cases r with
          | @ob _ Mf a C dx _ fs _ h1 h2 h3 h4 h5 h6 h7 h8 =>
            obtain ⟨v1, A, B, e1, r1, sA, sB, dAB, back⟩ := ROs.pickA h7 h8 q
            obtain ⟨w, M1, M2, pv, ru, s1, s2, d, back2⟩ := RO.path p r1 h
            have hne : a ≠ dx := by intro e; rw [← e, h2] at h3; cases h3
            have cM : Same (upd (upd em dx (.own a)) a (.ins C dx fs)) M := fun b o e => by
              by_cases q1 : b = a
              · subst q1; rw [upd_same] at e; cases e; exact h2
              · rw [upd_ne q1] at e
                by_cases q2 : b = dx
                · subst q2; rw [upd_same] at e; cases e; exact h3
                · rw [upd_ne q2] at e; cases e
            have cD : ∀ {Z : Hp}, Z a = none → Z dx = none → Dj (upd (upd em dx (.own a)) a (.ins C dx fs)) Z := fun {Z} z1 z2 => dj_upd_l (dj_upd_l Dj.em_l z2) z1
            have aA := sA.free h5
            have xA := sA.free h6
            have aB := sB.free h5
            have xB := sB.free h6
            have dM2B : Dj M2 B := dAB.sub s2 (Same.refl _)
            have dM1B : Dj M1 B := dAB.sub s1 (Same.refl _)
            have dC : Dj (upd (upd em dx (.own a)) a (.ins C dx fs)) (jn M2 B) := cD (jn_none (s2.free aA) aB) (jn_none (s2.free xA) xB)
            refine ⟨w, M1, jn (upd (upd em dx (.own a)) a (.ins C dx fs)) (jn M2 B), ⟨a, C, dx, fs, v1, rfl, h2, h1, by rw [lookup_getA]; exact e1, pv.mono (sA.trans h4)⟩, ru, (s1.trans sA).trans h4,
              jn_sub cM (jn_sub ((s2.trans sA).trans h4) (sB.trans h4)), dj_jn_r (cD (s1.free aA) (s1.free xA)).symm (dj_jn_r d dM1B), fun F' M1' u' M' s r' d' k1 k2 => ?_⟩
            have dm2 : Dj M1' M2 := d'.sub (Same.refl _) (jn_l.trans (jn_r dC))
            have dmB : Dj M1' B := d'.sub (Same.refl _) ((jn_r dM2B).trans (jn_r dC))
            have kk := back2 F' M1' u' (jn M1' M2) s r' dm2 jn_l (jn_r dm2)
            have kk2 := back F' (jn M1' M2) v1 _ (jn (jn M1' M2) B) s kk (dj_jn dmB dM2B) jn_l (jn_r (dj_jn dmB dM2B))
            rw [putO_f, q]
            dsimp only
            rw [putA_same e1] at kk2
            have a' : M1' a = none := d'.ne' (jn_l _ _ upd_same)
            have x' : M1' dx = none := d'.ne' (jn_l _ _ (by rw [upd_ne (Ne.symm hne)]; exact upd_same))
            refine .ob h1 (k2 _ _ (jn_l _ _ upd_same)) (k2 _ _ (jn_l _ _ (by rw [upd_ne (Ne.symm hne)]; exact upd_same))) (M' := jn (jn M1' M2) B) (jn_sub (jn_sub k1 ((jn_l.trans (jn_r dC)).trans k2)) (((jn_r dM2B).trans (jn_r dC)).trans k2))
              (jn_none (jn_none a' (s2.free aA)) aB) (jn_none (jn_none x' (s2.free xA)) xB) ?_ kk2
            have := putA_keys (f := x) (v := v1) (t := T.putO t1 p u') h7
            rw [putA_same e1] at this
            exact this
      · rw [if_neg hc] at h; cases h
    | _ => rw [T.getO] at h <;> first | cases h | (intros; simp_all)
  | .k x :: p, M, v, t, u, r, h => by
    cases t with
    | dk ts =>
      rw [getO_k] at h
      cases q : getA x ts with
      | none => rw [q] at h; cases h
      | some t1 =>
        rw [q] at h
        cases r with
        | @dk _ Mf a kvs _ h1 h2 h3 h4 h5 =>
          obtain ⟨v1, A, B, e1, r1, sA, sB, dAB, back⟩ := ROs.pickA h4 h5 q
          obtain ⟨w, M1, M2, pv, ru, s1, s2, d, back2⟩ := RO.path p r1 h
          have cM : Same (upd em a (.dK kvs)) M := same_upd_l Same.empty h1
          have cD : ∀ {Z : Hp}, Z a = none → Dj (upd em a (.dK kvs)) Z := fun {Z} z1 => dj_upd_l Dj.em_l z1
          have aA := sA.free h3
          have aB := sB.free h3
          have dM2B : Dj M2 B := dAB.sub s2 (Same.refl _)
          have dM1B : Dj M1 B := dAB.sub s1 (Same.refl _)
          have dC : Dj (upd em a (.dK kvs)) (jn M2 B) := cD (jn_none (s2.free aA) aB)
          refine ⟨w, M1, jn (upd em a (.dK kvs)) (jn M2 B), ⟨a, kvs, v1, rfl, .inl h1, by rw [valV_getA]; exact e1, pv.mono (sA.trans h2)⟩, ru, (s1.trans sA).trans h2,
            jn_sub cM (jn_sub ((s2.trans sA).trans h2) (sB.trans h2)), dj_jn_r (cD (s1.free aA)).symm (dj_jn_r d dM1B), fun F' M1' u' M' s r' d' k1 k2 => ?_⟩
          have dm2 : Dj M1' M2 := d'.sub (Same.refl _) (jn_l.trans (jn_r dC))
          have dmB : Dj M1' B := d'.sub (Same.refl _) ((jn_r dM2B).trans (jn_r dC))
          have kk := back2 F' M1' u' (jn M1' M2) s r' dm2 jn_l (jn_r dm2)
          have kk2 := back F' (jn M1' M2) v1 _ (jn (jn M1' M2) B) s kk (dj_jn dmB dM2B) jn_l (jn_r (dj_jn dmB dM2B))
          rw [putO_k, q]
          dsimp only
          rw [putA_same e1] at kk2
          have a' : M1' a = none := d'.ne' (jn_l _ _ upd_same)
          refine .dk (M' := jn (jn M1' M2) B) (k2 _ _ (jn_l _ _ upd_same)) (jn_sub (jn_sub k1 ((jn_l.trans (jn_r dC)).trans k2)) (((jn_r dM2B).trans (jn_r dC)).trans k2)) (jn_none (jn_none a' (s2.free aA)) aB) ?_ kk2
          have := putA_keys (f := x) (v := v1) (t := T.putO t1 p u') h4
          rw [putA_same e1] at this
          exact this
    | _ => rw [T.getO] at h <;> first | cases h | (intros; simp_all)
end
section
variable {g : Gx} {F Mm Mv G H : Hp} {σ : L2.St} {ts : List T} {i : Nat} {p : List Stp} {t0 : T}
end
end Ar
/-! ArPe: owned lists, dicts and fields at the end of a way, changed. -/
namespace Ar
open PySem PySem.Spec PyProof.Rows L2
def getS (i : Nat) (p : List Stp) (ts : List T) : Option T := match ts[i]? with
  | some t0 => T.getO t0 p
  | none => none
def putSl (i : Nat) (p : List Stp) (u : T) (ts : List T) : List T := match ts[i]? with
  | some t0 => ts.set i (T.putO t0 p u)
  | none => ts
section
variable {g : Gx} {W : WX} {F Mm Mv A G H : Hp} {σ : L2.St} {ts : List T} {i : Nat} {p : List Stp} {t0 u : T} {v : V}
/-- a slot's thing is held aside -/
theorem Sta.hold (st : Sta g F Mm G H σ ts) (e : ts[i]? = some t0) (e2 : T.getO t0 p = some u) (n : u ≠ .gone) :
    ∃ v w A B, σ[i]? = some (some v) ∧ RO g F A v t0 ∧ PV g A v p w ∧ Same A H ∧ Sta g F B (jn A G) H σ (ts.set i .gone) ∧ Dj A G := by
  obtain ⟨v, A, B, e1, r, st1, d⟩ := st.take e (getO_gone e2 n)
  obtain ⟨w, M1, M2, pv, _⟩ := RO.path p r e2
  exact ⟨v, w, A, B, e1, r, pv, jn_l.trans st1.hc.gh, st1, d⟩
end
/-- what is done where slot i is held aside -/
def aside {α : Type} (i : Nat) (m : M α) : M α := fun ts => match ts[i]? with
  | some t0 => (match m (ts.set i .gone) with
    | .ok a ts1 => if i < ts1.length then .ok a (ts1.set i t0) else .bad
    | .ex c ts1 => if i < ts1.length then .ex c (ts1.set i t0) else .bad
    | .bad => .bad)
  | none => .bad
section
variable {g : Gx} {W : WX} {F Mm G H : Hp} {σ : L2.St} {ts : List T} {i : Nat} {p : List Stp} {t0 u : T}
end
/-! ### way.append(e), way.pop(k), way.pop() -/
section
variable {X : Cx} {W : WX} {o e : Expr} {apos cpos : Pos} {i : Nat} {p : List Stp}
def apP (i : Nat) (p : List Stp) (t : T) (ts : List T) : Option T → R T
  | some (.l xs) => if xs.length < lim then .ok (.z .non) (putSl i p (.l (xs ++ [t])) ts) else .bad
  | _ => .bad
def poK (i : Nat) (p : List Stp) (d : D) (ts : List T) : Option T → R T
  | some (.dk xs) => (match Ar.D.key d with
    | some k => (match getA k xs with
      | some (.z y) => .ok (.z y) (putSl i p (.dk (xs.filter fun q => decide (q.1 ≠ k))) ts)
      | _ => .bad)
    | none => .bad)
  | _ => .bad
def isKO : Option T → Bool
  | some (.dk _) => true
  | _ => false
def popKP (i : Nat) (p : List Stp) (m : M D) : M T := fun ts => if isKO (getS i p ts) = true then (aside i m >>= fun d ts1 => poK i p d ts1 (getS i p ts1)) ts else .bad
end
end Ar
/-! ArPf: the last of an owned list popped; stores at the end of a way; fields stored. -/
namespace Ar
open PySem PySem.Spec PyProof.Rows L2
section
variable {X : Cx} {W : WX} {o e kx : Expr} {apos cpos pos pos' tpos : Pos} {i : Nat} {p : List Stp} {bs : List Nat}
/-! way[k] = e -/
def isCP : Option T → Bool
  | some (.l _) => true
  | some (.dk _) => true
  | _ => false
def stoP (i : Nat) (p : List Stp) (d : Ar.D) (t : T) (ts : List T) : Option T → RS
  | some u => (match setAt d t u with
    | some u' => .nx (putSl i p u' ts)
    | none => .bad)
  | none => .bad
def stP (i : Nat) (p : List Stp) (mk : M Ar.D) (me : M T) : S := bindS me fun t ts1 => if isCP (getS i p ts1) = true then bindS (aside i mk) (fun d ts2 => stoP i p d t ts2 (getS i p ts2)) ts1 else .bad
/-! way.f = e -/
def seF (i : Nat) (p : List Stp) (c f : Str) (t : T) (ts : List T) : Option T → RS
  | some (.ob c' fs) => if c' = c ∧ fs.length < 900 then .nx (putSl i p (.ob c' (putA f t fs)) ts) else .bad
  | _ => .bad
def setF (i : Nat) (p : List Stp) (c f : Str) (m : M T) : S := bindS m fun t ts1 => seF i p c f t ts1 (getS i p ts1)
end
end Ar
/-! ArPg: fields counted on; methods called; objects made. -/
namespace Ar
open PySem PySem.Spec PyProof.Rows L2
section
variable {X : Cx} {W : WX} {o e : Expr} {pos tpos : Pos} {i : Nat} {p : List Stp} {bs : List Nat}
/-! way.f op= e -/
def auF (i : Nat) (p : List Stp) (c f : Str) (g : Int → Int → Int) (d : Ar.D) (ts : List T) : Option T → RS
  | some (.ob c' fs) => (match getA f fs, toI d with
    | some (.z (.int x)), some y => if c' = c ∧ fs.length < 900 then .nx (putSl i p (.ob c' (putA f (.z (.int (g x y))) fs)) ts) else .bad
    | _, _ => .bad)
  | _ => .bad
def obF (c f : Str) : Option T → Bool
  | some (.ob c' fs) => (match getA f fs with | some (.z (.int _)) => decide (c' = c) | _ => false)
  | _ => false
def augF (i : Nat) (p : List Stp) (c f : Str) (g : Int → Int → Int) (m : M Ar.D) : S := fun ts => if obF c f (getS i p ts) = true then bindS (aside i m) (fun d ts1 => auF i p c f g d ts1 (getS i p ts1)) ts else .bad
end
/-! ### methods -/
section
variable {X : Cx} {CX : CXT} {k : Nat} {f C : Addr} {fd : FuncData} {ps : List Str} {sp : Sp} {E : L2.St → XK} {m : Str} {pos apos : Pos} {e o : Expr} {es : List Expr} {ta : TE} {t : TA} {pl : Sem Bool}
end
section
variable {X : Cx} {CX : CXT} {k : Nat} {f C : Addr} {fd : FuncData} {ps : List Str} {sp : Sp} {E : L2.St → XK} {m : Str} {pos apos : Pos} {o : Expr} {ta : TE} {pl : Sem Bool}
end
/-! the rows behind a receiver -/
def isOb (c m : Str) : T → Bool
  | .ob c' fs => decide (c' = c) && (getA m fs).isNone
  | .z (.ob c' fs) => decide (c' = c) && (getA m fs).isNone
  | _ => false
theorem getA_none_keys {κ α β : Type} [DecidableEq κ] {k : κ} : ∀ {xs : List (κ × α)} {ys : List (κ × β)}, xs.map (·.1) = ys.map (·.1) → getA k ys = none → getA k xs = none
  | [], [], _, _ => rfl
  | (a, x) :: xs, (b, y) :: ys, e, h => by
    rw [List.map_cons, List.map_cons] at e
    injection e with e1 e2
    simp only at e1
    subst e1
    rw [getA] at h ⊢
    by_cases q : a = k
    · rw [if_pos q] at h; cases h
    · rw [if_neg q] at h ⊢; exact getA_none_keys e2 h
  | [], _ :: _, e, _ => by cases e
  | _ :: _, [], e, _ => by cases e
theorem RO.isOb {g : Gx} {F M H : Hp} {v : V} {t : T} {c m : Str} {C : Addr} (r : RO g F M v t) (h : isOb c m t = true) (hC : g.mg c = some (.ref C)) (sf : Same F H) (sm : Same M H) : ∃ a dx fs, v = .ref a ∧ H a = some (.ins C dx fs) ∧ fs.lookup m = none := by
  cases t with
  | ob c' ts =>
    have h' : (decide (c' = c) && (getA m ts).isNone) = true := h
    rw [Bool.and_eq_true, decide_eq_true_eq, Option.isNone_iff_eq_none] at h'
    obtain ⟨rfl, hn⟩ := h'
    cases r with
    | @ob _ Mf a C0 dx _ fs _ h1 h2 h3 h4 h5 h6 h7 h8 =>
      have : C0 = C := by have z := h1.symm.trans hC; cases z; rfl
      subst this
      exact ⟨a, dx, fs, rfl, sm _ _ h2, by rw [lookup_getA]; exact getA_none_keys h7 hn⟩
  | z d =>
    cases d with
    | ob c' ts =>
      have h' : (decide (c' = c) && (getA m ts).isNone) = true := h
      rw [Bool.and_eq_true, decide_eq_true_eq, Option.isNone_iff_eq_none] at h'
      obtain ⟨rfl, hn⟩ := h'
      cases r with
      | z r => cases r with
        | @ob a C0 dx _ fs _ h1 h2 h3 h4 h5 =>
          have : C0 = C := by have z := h1.symm.trans hC; cases z; rfl
          subst this
          exact ⟨a, dx, fs, rfl, sf _ _ h2, by rw [lookup_getA]; exact getA_none_keys h4 hn⟩
    | _ => cases h
  | _ => cases h
def obN (c m : Str) : Option T → Bool
  | some t => isOb c m t
  | none => false
def MCal (P : Program) (w : World) (K : PySem.W.Frag) (mg : Str → Option Value) (base : Heap) (k : Nat) (c m : Str) (ps : List Str) (f : List T → R T) : Prop :=
  ∃ C fa fd, mg c = some (.ref C) ∧ Cls K C ∧ Meth K C m fa ∧ FnOk P w K mg base (L2.CX P w) k fa fd ps (spF ⟨K, mg, P, w⟩ ps.length f) ∧ Binds K fd ps []
section
variable {P : Program} {w : World} {K : PySem.W.Frag} {mg : Str → Option Value} {base : Heap}
theorem MCal.mono {c m : Str} {ps : List Str} {f : List T → R T} {k k2 : Nat} (C : MCal P w K mg base k c m ps f) (h : k ≤ k2) : MCal P w K mg base k2 c m ps f := by
  obtain ⟨C, fa, fd, e, cl, me, F1, bd⟩ := C
  exact ⟨C, fa, fd, e, cl, me, F1.mono h, bd⟩
end
end Ar
/-! ArPh: calls of methods; objects made. -/
namespace Ar
open PySem PySem.Spec PyProof.Rows L2
section
variable {X : Cx} {W : WX} {o e : Expr} {es : List Expr} {pos apos p : Pos} {i : Nat}
/-! x.m(e, ..), x a slot that holds its object -/
def methN (c m : Str) (i : Nat) (f : List T → R T) (tks : List (Option Nat)) (ms : M (List T)) : M T := fun ts => if obN c m ts[i]? = true then callM f (some i :: tks) (argTk i ms) ts else .bad
/-! e.m(e, ..) of anything that comes -/
def argOb (c m : Str) (mo : M T) (ms : M (List T)) : M (List T) := mo >>= fun t => if isOb c m t = true then (ms >>= fun tl => M.ret (t :: tl)) else stop
def methE (c m : Str) (mo : M T) (f : List T → R T) (tks : List (Option Nat)) (ms : M (List T)) : M T := callM f (none :: tks) (argOb c m mo ms)
end
end Ar
/-! ArPi: objects made; methods of what an owned object holds. -/
namespace Ar
open PySem PySem.Spec PyProof.Rows L2
section
variable {X : Cx} {CX : CXT} {k : Nat} {f C : Addr} {fd : FuncData} {ps : List Str} {sp : Sp} {E : L2.St → XK} {x : Str} {pos p : Pos} {e : Expr} {es : List Expr} {t : TA}
end
def CCal (P : Program) (w : World) (K : PySem.W.Frag) (mg : Str → Option Value) (base : Heap) (k : Nat) (c : Str) (ps : List Str) (f : List T → R T) : Prop :=
  ∃ C fa fd, mg c = some (.ref C) ∧ Mk K C fa ∧ FnOk P w K mg base (L2.CX P w) k fa fd ps (spF ⟨K, mg, P, w⟩ ps.length f) ∧ Binds K fd ps []
section
variable {P : Program} {w : World} {K : PySem.W.Frag} {mg : Str → Option Value} {base : Heap}
theorem CCal.mono {c : Str} {ps : List Str} {f : List T → R T} {k k2 : Nat} (C : CCal P w K mg base k c ps f) (h : k ≤ k2) : CCal P w K mg base k2 c ps f := by
  obtain ⟨C, fa, fd, e, mk, F1, bd⟩ := C
  exact ⟨C, fa, fd, e, mk, F1.mono h, bd⟩
end
section
variable {X : Cx} {W : WX} {o e : Expr} {es : List Expr} {pos apos p : Pos} {i : Nat}
def mkRes (tks : List (Option Nat)) (tl ts1 : List T) : R T → R T
  | .ok (.z .non) (fin :: fins) => .ok fin (giveB tks tl fins ts1)
  | .ex c (_ :: fins) => .ex c (giveB tks tl fins ts1)
  | _ => .bad
def makeM (c : Str) (f : List T → R T) (tks : List (Option Nat)) (ms : M (List T)) : M T := fun ts => match ms ts with
  | .ok tl ts1 => mkRes tks tl ts1 (f (.ob c [] :: tl))
  | .ex c ts1 => .ex c ts1
  | .bad => .bad
end
end Ar
/-! ArPj: dicts walked: they stand locked meanwhile. -/
namespace Ar
open PySem PySem.Spec PyProof.Rows L2
/-- the dict b, locked or not -/
def Lk (b : HO) : Prop := (∃ k, b = .dK k) ∨ ∃ k, b = .dT k
def DkU (b u : HO) : Prop := Lk b ∧ (u = b ∨ ∃ o, u = .frz o b)
section
variable {g : Gx} {F H : Hp} {p : Addr} {u u' bb : HO}
theorem Lk.nf {b : HO} (h : Lk b) : ∀ o k, b ≠ .frz o k := fun o k z => by
  rcases h with ⟨_, e⟩ | ⟨_, e⟩ <;> (rw [e] at z; cases z)
theorem DkU.ne_of (h : DkU bb u) {w : HO} (n1 : ¬ Lk w) (n2 : ∀ o k, w ≠ .frz o k) : u ≠ w := by
  obtain ⟨l, rfl | ⟨o, rfl⟩⟩ := h
  · exact fun e => n1 (e ▸ l)
  · exact fun e => n2 _ _ e.symm
theorem swap_at {a : Addr} {w : HO} (hp : F p = some u) (hu : DkU bb u) (e : F a = some w) (n1 : ¬ Lk w := by rintro (⟨_, z⟩ | ⟨_, z⟩) <;> cases z) (n2 : ∀ o k, w ≠ .frz o k := by intro _ _ z; cases z) : upd F p u' a = some w := by
  by_cases q : a = p
  · subst q; rw [hp] at e; cases e; exact absurd rfl (hu.ne_of n1 n2)
  · rw [upd_ne q]; exact e
theorem swap_rd {a : Addr} {w : HO} (hp : F p = some u) (hu : DkU bb u) (hu' : DkU bb u') (e : Rd F a w) (nf : ∀ o k, w ≠ .frz o k := by intro _ _ z; cases z) : Rd (upd F p u') a w := by
  by_cases q : a = p
  · subst q
    have hw : w = bb := by
      obtain ⟨l, hu⟩ := hu
      rcases e with e | ⟨o, e⟩
      · rw [hp] at e; cases e
        rcases hu with h | ⟨o, h⟩
        · exact h
        · exact absurd h (nf _ _)
      · rw [hp] at e; cases e
        rcases hu with h | ⟨o', h⟩
        · exact absurd h.symm (l.nf _ _)
        · cases h; rfl
    subst hw
    obtain ⟨_, rfl | ⟨o, rfl⟩⟩ := hu'
    · exact .inl upd_same
    · exact .inr ⟨o, upd_same⟩
  · rcases e with e | ⟨o, e⟩
    · exact .inl (by rw [upd_ne q]; exact e)
    · exact .inr ⟨o, by rw [upd_ne q]; exact e⟩
mutual
theorem Rp.swap (hp : F p = some u) (hu : DkU bb u) (hu' : DkU bb u') : ∀ {v d}, Rp g F v d → Rp g (upd F p u') v d
  | _, _, .non => .non
  | _, _, .bl b => .bl b
  | _, _, .int b => .int b
  | _, _, .str b => .str b
  | _, _, .fn b => .fn b
  | _, _, .lst h r => .lst (swap_at hp hu h) (RpAll.swap hp hu hu' r)
  | _, _, .tup h r => .tup (swap_at hp hu h) (RpAll.swap hp hu hu' r)
  | _, _, .ktup h l r => .ktup h l (RpAll.swap hp hu hu' r)
  | _, _, .dk h k r => .dk (swap_rd hp hu hu' h) k (RpAll.swap hp hu hu' r)
  | _, _, .dt h k r => .dt (swap_rd hp hu hu' h) k (RpAll.swap hp hu hu' r)
  | _, _, .st h k r => .st (swap_at hp hu h) k r
  | _, _, .scr h => .scr (by
      rcases h with h | h
      · exact .inl (swap_rd hp hu hu' h)
      · exact .inr h)
  | _, _, .ob h1 h2 h3 h4 h5 => .ob h1 (swap_at hp hu h2) (swap_at hp hu h3) h4 (RpAll.swap hp hu hu' h5)
theorem RpAll.swap (hp : F p = some u) (hu : DkU bb u) (hu' : DkU bb u') : ∀ {v d}, RpAll g F v d → RpAll g (upd F p u') v d
  | _, _, .nil => .nil
  | _, _, .cons h t => .cons (Rp.swap hp hu hu' h) (RpAll.swap hp hu hu' t)
end
mutual
theorem RO.swap (hp : F p = some u) (hu : DkU bb u) (hu' : DkU bb u') : ∀ {M v t}, RO g F M v t → RO g (upd F p u') M v t
  | _, _, _, .z h => .z (h.swap hp hu hu')
  | _, _, _, .l h1 h2 h3 h4 => .l h1 h2 h3 (ROs.swap hp hu hu' h4)
  | _, _, _, .dk h1 h2 h3 h4 h5 => .dk h1 h2 h3 h4 (ROs.swap hp hu hu' h5)
  | _, _, _, .dt h1 h2 h3 => .dt h1 h2 (h3.swap hp hu hu')
  | _, _, _, .ob h1 h2 h3 h4 h5 h6 h7 h8 => .ob h1 h2 h3 h4 h5 h6 h7 (ROs.swap hp hu hu' h8)
  | _, _, _, .tp h1 h2 => .tp (swap_at hp hu h1) (ROs.swap hp hu hu' h2)
  | _, _, _, .gone => .gone
theorem ROs.swap (hp : F p = some u) (hu : DkU bb u) (hu' : DkU bb u') : ∀ {M v t}, ROs g F M v t → ROs g (upd F p u') M v t
  | _, _, _, .nil => .nil
  | _, _, _, .cons h1 h2 h3 h4 h5 => .cons (RO.swap hp hu hu' h1) (ROs.swap hp hu hu' h2) h3 h4 h5
end
theorem upd_dj {A B : Hp} {o : HO} (d : Dj A B) (h : ∃ x, A p = some x) : Dj (upd A p o) B := by
  obtain ⟨x, h⟩ := h
  exact dj_upd_l d (d.ne h)
theorem upd_off {A B : Hp} {o : HO} (n : A p = none) (s : Same A B) : Same A (upd B p o) := fun b x e => by rw [upd_ne (ne_of_none e n)]; exact s _ _ e
theorem upd_both {A B : Hp} {o : HO} (s : Same A B) : Same (upd A p o) (upd B p o) := fun b x e => by
  by_cases q : b = p
  · subst q; rw [upd_same] at e ⊢; exact e
  · rw [upd_ne q] at e ⊢; exact s _ _ e
theorem Sta.swap {Mm G : Hp} {σ : L2.St} {ts : List T} (st : Sta g F Mm G H σ ts) (hp : F p = some u) (hu : DkU bb u) (hu' : DkU bb u') : Sta g (upd F p u') Mm G (upd H p u') σ ts := by
  obtain ⟨vs, r, q⟩ := st.vs
  have hc := st.hc
  have nM := hc.fm.ne hp
  have nG := hc.fg.ne hp
  exact ⟨⟨upd_both hc.fh, upd_off nM hc.mh, upd_off nG hc.gh, upd_dj hc.fm ⟨_, hp⟩, upd_dj hc.fg ⟨_, hp⟩, hc.mg, fun b xs e => by
    by_cases z : b = p
    · subst z
      rw [upd_same] at e ⊢
      exact e
    · rw [upd_ne z] at e ⊢; exact hc.ft b xs e⟩, ⟨vs, r.swap hp hu hu', q⟩, st.len⟩
theorem PV.swap (hp : H p = some u) (hu : DkU bb u) (hu' : DkU bb u') : ∀ {q : List Stp} {v w : V}, PV g H v q w → PV g (upd H p u') v q w
  | [], _, _, h => h
  | .f c x :: q, _, _, ⟨a, C, dx, fs, y, e, h1, h2, h3, h4⟩ => ⟨a, C, dx, fs, y, e, swap_at hp hu h1, h2, h3, PV.swap hp hu hu' h4⟩
  | .k x :: q, _, _, ⟨a, ks, y, e, h1, h2, h3⟩ => ⟨a, ks, y, e, swap_rd hp hu hu' h1, h2, PV.swap hp hu hu' h3⟩
end
/-! ### a way in what is frozen -/
def D.get : D → List Stp → Option D
  | d, [] => some d
  | .ob c' fs, .f c x :: p => if c' = c then (match getA x fs with | some t => D.get t p | none => none) else none
  | .dk kvs, .k s :: p => (match getA s kvs with | some t => D.get t p | none => none)
  | _, _ => none
termination_by _ p => p.length
@[simp] theorem dget_nil (d : D) : D.get d [] = some d := by rw [D.get]
@[simp] theorem dget_f (c' fs c x p) : D.get (.ob c' fs) (.f c x :: p) = if c' = c then (match getA x fs with | some t => D.get t p | none => none) else none := by rw [D.get]
@[simp] theorem dget_kk (kvs s p) : D.get (.dk kvs) (.k s :: p) = (match getA s kvs with | some t => D.get t p | none => none) := by rw [D.get]
theorem Rp.get {g : Gx} {F H : Hp} (s : Same F H) : ∀ (p : List Stp) {v : V} {d0 d : D}, Rp g F v d0 → D.get d0 p = some d → ∃ w, PV g H v p w ∧ Rp g F w d
  | [], v, d0, d, r, h => by rw [dget_nil] at h; cases h; exact ⟨v, rfl, r⟩
  | .f c x :: p, v, d0, d, r, h => by
    cases d0 with
    | ob c' ds =>
      rw [dget_f] at h
      by_cases hc : c' = c
      · rw [if_pos hc] at h
        subst hc
        cases q : getA x ds with
        | none => rw [q] at h; cases h
        | some d1 =>
          rw [q] at h
          cases r with
          | @ob a C dx _ fs _ h1 h2 h3 h4 h5 =>
            obtain ⟨v1, e1, r1⟩ := RpAll.getA h4 h5 q
            obtain ⟨w, pv, rw'⟩ := Rp.get s p r1 h
            exact ⟨w, ⟨a, C, dx, fs, v1, rfl, s _ _ h2, h1, by rw [lookup_getA]; exact e1, pv⟩, rw'⟩
      · rw [if_neg hc] at h; cases h
    | _ => rw [D.get] at h <;> first | cases h | (intros; simp_all)
  | .k x :: p, v, d0, d, r, h => by
    cases d0 with
    | dk ds =>
      rw [dget_kk] at h
      cases q : getA x ds with
      | none => rw [q] at h; cases h
      | some d1 =>
        rw [q] at h
        cases r with
        | @dk a kvs _ h1 h2 h3 =>
          obtain ⟨v1, e1, r1⟩ := RpAll.getA h2 h3 q
          obtain ⟨w, pv, rw'⟩ := Rp.get s p r1 h
          exact ⟨w, ⟨a, kvs, v1, rfl, Same.rdm s h1, by rw [valV_getA]; exact e1, pv⟩, rw'⟩
    | _ => rw [D.get] at h <;> first | cases h | (intros; simp_all)
def getF (i : Nat) (p : List Stp) (ts : List T) : Option D := match ts[i]? with
  | some (.z d0) => D.get d0 p
  | _ => none
def kys (ds : List (Key × D)) : List D := ds.map fun q => kD q.1
/-! ### for k in way -/
def forK (i : Nat) (p : List Stp) (put : D → List T → Option (List T)) (body : S) : S := fun ts => match getF i p ts with
  | some (.dk ds) => noEx (loopS put body (kys ds) ts)
  | _ => .bad
section
variable {X : Cx} {W : WX} {bs : List Nat} {tg e : Expr} {body : List Stmt} {pos : Pos} {i : Nat} {p : List Stp} {put : D → List T → Option (List T)} {n : S}
/-! ### [.. for k in way ..] -/
def compK (i : Nat) (p : List Stp) (vs : List Nat) (put : D → List T → Option (List T)) (mc : M Bool) (me : M D) : M T := fun ts => match getF i p ts with
  | some (.dk ds) => (match compM (fun us => .ok (kys ds) us) vs put mc me ts with
    | .ok t ts' => .ok t ts'
    | _ => .bad)
  | _ => .bad
end
end Ar
/-! ArPn: the keys of a dict by tuples, walked by a comprehension. -/
namespace Ar
open PySem PySem.Spec PyProof.Rows L2
section
variable {X : Cx} {W : WX} {tg e : Expr} {pos : Pos} {i : Nat} {p : List Stp} {put : D → List T → Option (List T)}
end
/-! running -/
end Ar
/-! ArPo: a loop where a name holds the last thing of an owned list (p the list's slot, b the name's). -/
namespace Ar
open PySem PySem.Spec PyProof.Rows L2
def Tie (p b : Nat) (H : Hp) (σ : L2.St) : Prop := ∃ a xs v, σ[p]? = some (some (.ref a)) ∧ H a = some (.lst xs) ∧ xs.getLast? = some v ∧ σ[b]? = some (some v)
def TieO (p b : Nat) (H : Hp) (σ : L2.St) (ts : List T) : Prop := ts[b]? = some .gone → Tie p b H σ
def KST (p b : Nat) (g : Gx) (W : WX) (bs : List Nat) (F G : Hp) (σ : L2.St) (D : Ends) (r : RS) : Prop := match r with
  | .bad => False
  | .nx ts' => ∀ F' M' H' σ', Same F F' → Sta g F' M' G H' σ' ts' → TieO p b H' σ' ts' → Pin bs σ σ' → D.nx σ' H'
  | .bk ts' => ∀ F' M' H' σ', Same F F' → Sta g F' M' G H' σ' ts' → TieO p b H' σ' ts' → Pin bs σ σ' → D.bk σ' H'
  | .ct ts' => ∀ F' M' H' σ', Same F F' → Sta g F' M' G H' σ' ts' → TieO p b H' σ' ts' → Pin bs σ σ' → D.ct σ' H'
  | .rt t ts' => ∀ F' Mv M' H' σ' v, Same F F' → RO g F' Mv v t → Sta g F' M' (jn Mv G) H' σ' ts' → Dj Mv G → Pin bs σ σ' → D.rt v H'
  | .ex c ts' => ∀ F' M' H' σ' C, Same F F' → Sta g F' M' G H' σ' ts' → Pin bs σ σ' → g.mg c = some (.ref C) → W (.ref C) none σ' H'
theorem KST.mono {p b : Nat} {g : Gx} {W : WX} {bs : List Nat} {F F1 G : Hp} {σ σ1 : L2.St} {D : Ends} {r : RS} (h : KST p b g W bs F G σ D r) (s : Same F F1) (q : Pin bs σ σ1) : KST p b g W bs F1 G σ1 D r := by
  cases r with
  | bad => exact h
  | nx ts => exact fun F' M' H' σ' s1 st t q1 => h F' M' H' σ' (s.trans s1) st t (q.trans q1)
  | bk ts => exact fun F' M' H' σ' s1 st t q1 => h F' M' H' σ' (s.trans s1) st t (q.trans q1)
  | ct ts => exact fun F' M' H' σ' s1 st t q1 => h F' M' H' σ' (s.trans s1) st t (q.trans q1)
  | rt t ts => exact fun F' Mv M' H' σ' v s1 r st d q1 => h F' Mv M' H' σ' v (s.trans s1) r st d (q.trans q1)
  | ex c ts => exact fun F' M' H' σ' C s1 st q1 => h F' M' H' σ' C (s.trans s1) st (q.trans q1)
/-- what may stand in the name's slot while others are at work -/
@[simp] def zg : Option T → Bool
  | some (.z _) => true
  | some .gone => true
  | _ => false
@[simp] def held2 (p b : Nat) (ts : List T) : List T := (ts.set p .gone).set b .gone
@[simp] def back2 (p b : Nat) (ts ts1 : List T) : List T := (ts1.set b (ts[b]?.getD .gone)).set p (ts[p]?.getD .gone)
/-- a statement that has nothing to do with the two -/
def frmS (p b : Nat) (m : S) : S := fun ts => if isL p ts = true ∧ zg ts[b]? = true then (match m (held2 p b ts) with
  | .nx ts1 => .nx (back2 p b ts ts1)
  | .ex c ts1 => .ex c ts1
  | _ => .bad) else .bad
def frmB (p b : Nat) (m : M Bool) : M Bool := fun ts => if isL p ts = true ∧ zg ts[b]? = true then (match m (held2 p b ts) with
  | .ok x ts1 => .ok x (back2 p b ts ts1)
  | .ex c ts1 => .ex c ts1
  | _ => .bad) else .bad
section
variable {g : Gx} {F Mm G H : Hp} {σ : L2.St} {ts : List T} {p b : Nat}
end
section
variable {X : Cx} {W : WX} {bs bs' : List Nat} {p b : Nat}
end
/-! ### the name is stored anew, of what it held -/
def lastD (p : Nat) (ts : List T) : Option D := match ts[p]? with
  | some (.l tl) => (match tl.getLast? with | some t => t.fz | none => none)
  | _ => none
@[simp] def isG : Option T → Bool
  | some .gone => true
  | _ => false
def visT (p b : Nat) (ts : List T) : Option (List T) := if isG ts[b]? = true then (lastD p ts).map fun d => (ts.map frzT).set b (.z d) else some (ts.map frzT)
@[simp] def notG : T → Bool
  | .gone => false
  | _ => true
def tieSet (p b : Nat) (m : M T) : S := fun ts => match visT p b ts with
  | some ts3 => (match m ts3 with
    | .ok t _ => if t.fresh = true ∧ notG t = true ∧ b < ts.length then .nx (ts.set b t) else .bad
    | .ex c _ => .ex c ts
    | .bad => .bad)
  | none => .bad
section
variable {X : Cx} {W : WX} {bs : List Nat} {p b : Nat} {e : Expr} {pos pos' : Pos}
end
/-! ### .. and put behind the list -/
def tieApp (p b : Nat) : S := fun ts => match ts[p]?, ts[b]? with
  | some (.l tl), some t => if tl.length < lim ∧ notG t = true then .nx ((ts.set b .gone).set p (.l (tl ++ [t]))) else .bad
  | _, _ => .bad
section
variable {X : Cx} {W : WX} {bs : List Nat} {p b : Nat} {x y : Str} {pp py apos cpos pos : Pos}
/-- the loop -/
noncomputable def whileT (b : Nat) (c : M Bool) (body : S) : S := fun ts => if isG ts[b]? = true then .bad else whileS c body ts
end
/-! ### run -/
@[simp] theorem tieApp_ap (p b ts) : tieApp p b ts = match ts[p]?, ts[b]? with
  | some (.l tl), some t => if tl.length < lim ∧ notG t = true then .nx ((ts.set b .gone).set p (.l (tl ++ [t]))) else .bad
  | _, _ => .bad := rfl
@[simp] theorem frmS_ap (p b m ts) : frmS p b m ts = if isL p ts = true ∧ zg ts[b]? = true then (match m (held2 p b ts) with
  | .nx ts1 => .nx (back2 p b ts ts1)
  | .ex c ts1 => .ex c ts1
  | _ => .bad) else .bad := rfl
@[simp] theorem frmB_ap (p b m ts) : frmB p b m ts = if isL p ts = true ∧ zg ts[b]? = true then (match m (held2 p b ts) with
  | .ok x ts1 => .ok x (back2 p b ts ts1)
  | .ex c ts1 => .ex c ts1
  | _ => .bad) else .bad := rfl
@[simp] theorem tieSet_ap (p b m ts) : tieSet p b m ts = match visT p b ts with
  | some ts3 => (match m ts3 with
    | .ok t _ => if t.fresh = true ∧ notG t = true ∧ b < ts.length then .nx (ts.set b t) else .bad
    | .ex c _ => .ex c ts
    | .bad => .bad)
  | none => .bad := rfl
@[simp] theorem whileT_ap (b c body ts) : whileT b c body ts = if isG ts[b]? = true then .bad else whileS c body ts := rfl
end Ar
/-! ArPp: a def under another global name; a loop over a row of names whose things are changed; x[i][j] = e. -/
namespace Ar
open PySem PySem.Spec PyProof.Rows L2
section
variable {P : Program} {w : World} {K : PySem.W.Frag} {mg : Str → Option Value} {base : Heap}
end
/-! ### for y in (x1, x2, ..): what the names hold is changed -/
section
variable {X : Cx}
end
section
variable {X : Cx} {W : WX} {bs bs' : List Nat} {y : Str} {p2 p3 pos : Pos} {k0 : Nat} {body : List Stmt} {j : Nat} {n : S} {es : List Expr} {is : List Nat}
end
/-! ### x[i][j] = e -/
def stnO (k b : Nat) (y : D) (i : Nat) (ts : List T) (xs : List T) : Option T → RS
  | some (.l ys) => if b < ys.length then .nx (ts.set i (.l (xs.set k (.l (ys.set b (.z y)))))) else .bad
  | _ => .bad
def stnD (i : Nat) (a b : Int) (y : D) (ts : List T) : Option T → RS
  | some (.l xs) => (match ixN xs.length a with
    | some k => (match xs[k]? with
      | some (.l ys) => (match ixN ys.length b with
        | some kk => stnO k kk y i ts xs (some (.l ys))
        | none => .bad)
      | _ => .bad)
    | none => .bad)
  | _ => .bad
def intOf : Option D → Option Int
  | some (.int i) => some i
  | _ => none
def stnS (i : Nat) (mc1 mc2 : List T → Option D) (me : M D) : S := bindS me fun y ts1 => match intOf (mc1 ts1), intOf (mc2 ts1) with
  | some a, some b => stnD i a b y ts1 ts1[i]?
  | _, _ => .bad
section
variable {X : Cx} {W : WX} {bs : List Nat} {x : Str} {p pos pos' pos2 : Pos} {i : Nat} {e bx kx : Expr}
end
/-! ### a tuple that holds owned things, handed out and parted -/
def tpM (ms : M (List T)) : M T := ms >>= fun tl => if tl.length ≤ lim then M.ret (.tp tl) else stop
section
variable {X : Cx} {W : WX} {bs : List Nat} {es : List Expr} {e : Expr} {pos : Pos}
def setTs (ts : List T) : List Nat → List T → List T
  | i :: is, t :: tl => setTs (ts.set i t) is tl
  | _, _ => ts
def unTp : T → Option (List T)
  | .tp tl => some tl
  | _ => none
def asgO (is : List Nat) (m : M T) : S := bindS m fun t ts => match unTp t with
  | some tl => if tl.length = is.length ∧ (is.all fun i => decide (i < ts.length)) = true then .nx (setTs ts is tl) else .bad
  | none => .bad
end
@[simp] theorem tpM_ap (ms ts) : tpM ms ts = (ms ts).and fun tl ts1 => if tl.length ≤ lim then .ok (.tp tl) ts1 else .bad := by
  unfold tpM; rw [bind_ap]; congr 1; funext tl ts1; split <;> rfl
@[simp] theorem asgO_ap (is m ts) : asgO is m ts = bindS m (fun t ts => match unTp t with
  | some tl => if tl.length = is.length ∧ (is.all fun i => decide (i < ts.length)) = true then .nx (setTs ts is tl) else .bad
  | none => .bad) ts := rfl
@[simp] theorem unTp_tp (tl) : unTp (.tp tl) = some tl := rfl
/-! ### run -/
@[simp] theorem stnS_ap (i mc1 mc2 me ts) : stnS i mc1 mc2 me ts = bindS me (fun y ts1 => match intOf (mc1 ts1), intOf (mc2 ts1) with
  | some a, some b => stnD i a b y ts1 ts1[i]?
  | _, _ => .bad) ts := rfl
@[simp] theorem intOf_int (i) : intOf (some (.int i)) = some i := rfl
end Ar
/-! ArPk: a method of what an owned object holds; a statement that only looks. -/
namespace Ar
open PySem PySem.Spec PyProof.Rows L2
section
variable {X : Cx} {W : WX} {o e : Expr} {es : List Expr} {pos apos : Pos} {i : Nat} {p : List Stp}
def obRes (i : Nat) (p : List Stp) (t0 : T) (tks : List (Option Nat)) (tl ts1 : List T) : R T → R T
  | .ok t (fin :: fins) => .ok t ((giveB tks tl fins ts1).set i (T.putO t0 p fin))
  | _ => .bad
end
/-! ### a statement that only looks: what it stores holds nothing that was lent -/
section
variable {g : Gx} {F M0 F' G H' : Hp}
end
end Ar
/-! ArPq: sorted of a dict, a dict's display with texts for keys, a constant pair. -/
namespace Ar
open PySem PySem.Spec PyProof.Rows L2
/-! ### sorted(d) -/
def keyInts : List Key → Option (List Int)
  | [] => some []
  | .inl i :: r => (keyInts r).map (i :: ·)
  | .inr _ :: _ => none
def oSortedA : D → Option T
  | .dk kvs => match keyInts (kvs.map (·.1)) with
    | some ns => if ns.length < 64 then some (.l ((isort ns).map fun i => .z (.int i))) else none
    | none => none
  | d => oSorted d
section
variable {X : Cx} {W : WX} {a : Expr} {pos p : Pos} {ma : M D}
end
/-! ### {"a": e, ..} -/
def dspMs : List (Str × M T) → M (List (Key × T))
  | [] => M.ret []
  | (s, m) :: r => m >>= fun t => dspMs r >>= fun l => M.ret ((.inr s, t) :: l)
def dspO (kms : List (Str × M T)) : M T := dspMs kms >>= fun l => M.ret (.dk l)
section
variable {X : Cx} {W : WX} {pos : Pos} {keys : List (Option Expr)} {values : List Expr} {kms : List (Str × M T)}
end
@[simp] theorem dspO_ap (kms ts) : dspO kms ts = (dspMs kms ts).and fun l ts1 => .ok (.dk l) ts1 := by unfold dspO; rw [bind_ap]; rfl
@[simp] theorem dspMs_nil (ts) : dspMs [] ts = .ok [] ts := rfl
@[simp] theorem dspMs_cons (s m r ts) : dspMs ((s, m) :: r) ts = (m ts).and fun t ts1 => (dspMs r ts1).and fun l ts2 => .ok ((.inr s, t) :: l) ts2 := by
  show (m >>= fun t => dspMs r >>= fun l => M.ret ((Sum.inr s, t) :: l)) ts = _
  rw [bind_ap]; rfl
/-! ### a constant pair of numbers -/
section
variable {X : Cx} {pos : Pos}
end
section
variable {X : Cx} {W : WX} {b : Expr} {p pos : Pos} {x : Str} {tab : List (Str × D)}
end
/-! ### way.get(k, e): what stands there is frozen -/
def geP (kk : Key) (z : D) (ts : List T) : Option T → R T
  | some (.dk xs) => (match getA kk xs with
    | none => .ok (.z z) ts
    | some (.z y) => .ok (.z y) ts
    | _ => .bad)
  | _ => .bad
def getP (i : Nat) (p : List Stp) (mk : List T → Option D) (mz : M D) : M T := fun ts => match (mk ts).bind D.key with
  | some kk => if isKO (getS i p ts) = true then (aside i mz >>= fun z ts1 => geP kk z ts1 (getS i p ts1)) ts else .bad
  | none => .bad
section
variable {X : Cx} {W : WX} {o e f : Expr} {apos cpos : Pos} {i : Nat} {p : List Stp}
end
@[simp] theorem getP_ap (i p mk mz ts) : getP i p mk mz ts = match (mk ts).bind D.key with
  | some kk => if isKO (getS i p ts) = true then (aside i mz ts).and fun z ts1 => geP kk z ts1 (getS i p ts1) else .bad
  | none => .bad := by
  unfold getP
  cases (mk ts).bind D.key with
  | none => rfl
  | some kk => dsimp only; split <;> first | rw [bind_ap] | rfl
end Ar
/-! ArPr: running what is done with objects. -/
namespace Ar
open PySem PySem.Spec PyProof.Rows L2
@[simp] theorem argOb_ap (c m mo ms ts) : argOb c m mo ms ts = (mo ts).and fun t ts1 => if isOb c m t = true then (ms ts1).and fun tl ts2 => .ok (t :: tl) ts2 else .bad := by
  unfold argOb; rw [bind_ap]; congr 1; funext t ts1; split
  · rw [bind_ap]; rfl
  · rfl
@[simp] theorem methE_ap (c m mo f tks ms ts) : methE c m mo f tks ms ts = (argOb c m mo ms ts).and fun tl ts1 => (f tl).give (none :: tks) tl ts1 := by unfold methE; rw [callM_ap]
@[simp] theorem methN_ap (c m i f tks ms ts) : methN c m i f tks ms ts = if obN c m ts[i]? = true then callM f (some i :: tks) (argTk i ms) ts else .bad := rfl
def mkGive (r : R T) (tks : List (Option Nat)) (tl ts1 : List T) : R T := mkRes tks tl ts1 r
@[simp] theorem mkGive_ok (tks tl ts1 fin fins) : mkGive (.ok (.z .non) (fin :: fins)) tks tl ts1 = .ok fin (giveB tks tl fins ts1) := rfl
@[simp] theorem mkGive_ex (tks tl ts1 c x fins) : mkGive (.ex c (x :: fins)) tks tl ts1 = .ex c (giveB tks tl fins ts1) := rfl
@[simp] theorem makeM_ap (c f tks ms ts) : makeM c f tks ms ts = (ms ts).and fun tl ts1 => mkGive (f (.ob c [] :: tl)) tks tl ts1 := by
  unfold makeM; cases ms ts <;> rfl
def R.asd {α : Type} (r : R α) (i : Nat) (t0 : T) : R α := match r with
  | .ok a ts1 => if i < ts1.length then .ok a (ts1.set i t0) else .bad
  | .ex c ts1 => if i < ts1.length then .ex c (ts1.set i t0) else .bad
  | .bad => .bad
@[simp] theorem asd_ok {α : Type} (a : α) (ts1 i t0) : R.asd (.ok a ts1) i t0 = if i < ts1.length then .ok a (ts1.set i t0) else .bad := rfl
def asdO {α : Type} (i : Nat) (m : M α) (ts : List T) : Option T → R α
  | some t0 => (m (ts.set i .gone)).asd i t0
  | none => .bad
@[simp] theorem asdO_some {α : Type} (i : Nat) (m : M α) (ts t0) : asdO i m ts (some t0) = (m (ts.set i .gone)).asd i t0 := rfl
@[simp] theorem aside_ap {α : Type} (i : Nat) (m : M α) (ts) : aside i m ts = asdO i m ts ts[i]? := by
  unfold aside asdO R.asd
  cases ts[i]? with
  | none => rfl
  | some t0 => first | (dsimp only; done) | (dsimp only; cases m (ts.set i .gone) <;> rfl)
@[simp] theorem setF_ap (i p c f m ts) : setF i p c f m ts = (m ts).andS fun t ts1 => seF i p c f t ts1 (getS i p ts1) := by
  unfold setF bindS; cases m ts <;> rfl
@[simp] theorem augF_ap (i p c f g m ts) : augF i p c f g m ts = if obF c f (getS i p ts) = true then (aside i m ts).andS fun d ts1 => auF i p c f g d ts1 (getS i p ts1) else .bad := by
  unfold augF bindS; split
  · cases aside i m ts <;> rfl
  · rfl
@[simp] theorem stP_ap (i p mk me ts) : stP i p mk me ts = (me ts).andS fun t ts1 => if isCP (getS i p ts1) = true then (aside i mk ts1).andS fun d ts2 => stoP i p d t ts2 (getS i p ts2) else .bad := by
  unfold stP bindS; cases me ts with
  | ok t ts1 =>
    show (if isCP (getS i p ts1) = true then _ else _) = (if isCP (getS i p ts1) = true then _ else _)
    split
    · cases aside i mk ts1 <;> rfl
    · rfl
  | _ => rfl
@[simp] theorem popKP_ap (i p m ts) : popKP i p m ts = if isKO (getS i p ts) = true then (aside i m ts).and fun d ts1 => poK i p d ts1 (getS i p ts1) else .bad := by
  unfold popKP; split
  · rw [bind_ap]
  · rfl
def getSO (p : List Stp) : Option T → Option T
  | some t0 => T.getO t0 p
  | none => none
@[simp] theorem getSO_some (p t0) : getSO p (some t0) = T.getO t0 p := rfl
@[simp] theorem getS_ap (i p ts) : getS i p ts = getSO p ts[i]? := by unfold getS getSO; cases ts[i]? <;> rfl
def putSO (i : Nat) (p : List Stp) (u : T) (ts : List T) : Option T → List T
  | some t0 => ts.set i (T.putO t0 p u)
  | none => ts
@[simp] theorem putSO_some (i p u ts t0) : putSO i p u ts (some t0) = ts.set i (T.putO t0 p u) := rfl
@[simp] theorem putSl_ap (i p u ts) : putSl i p u ts = putSO i p u ts ts[i]? := by unfold putSl putSO; cases ts[i]? <;> rfl
@[simp] theorem isCP_dk (l) : isCP (some (.dk l)) = true := rfl
@[simp] theorem isCP_l (l) : isCP (some (.l l)) = true := rfl
@[simp] theorem isKO_dk (l) : isKO (some (.dk l)) = true := rfl
def stoU (i : Nat) (p : List Stp) (ts : List T) : Option T → RS
  | some u' => .nx (putSl i p u' ts)
  | none => .bad
@[simp] theorem stoU_some (i p ts u) : stoU i p ts (some u) = .nx (putSl i p u ts) := rfl
@[simp] theorem stoP_some (i p d t ts u) : stoP i p d t ts (some u) = stoU i p ts (setAt d t u) := by
  show (match setAt d t u with | some u' => RS.nx (putSl i p u' ts) | none => .bad) = _
  cases setAt d t u <;> rfl
def forKO (put : D → List T → Option (List T)) (body : S) (ts : List T) : Option D → RS
  | some (.dk ds) => noEx (loopS put body (kys ds) ts)
  | _ => .bad
@[simp] theorem forKO_dk (put body ts ds) : forKO put body ts (some (.dk ds)) = noEx (loopS put body (kys ds) ts) := rfl
@[simp] theorem forK_ap (i p put body ts) : forK i p put body ts = forKO put body ts (getF i p ts) := by
  unfold forK forKO; cases getF i p ts with
  | none => rfl
  | some d => cases d <;> rfl
def getFO (p : List Stp) : Option T → Option D
  | some (.z d0) => D.get d0 p
  | _ => none
@[simp] theorem getFO_z (p d0) : getFO p (some (.z d0)) = D.get d0 p := rfl
@[simp] theorem getF_ap (i p ts) : getF i p ts = getFO p ts[i]? := by unfold getF getFO; cases ts[i]? with
  | none => rfl
  | some t => cases t <;> rfl
@[simp] theorem kys_nil : kys [] = [] := rfl
@[simp] theorem kys_cons (k d r) : kys ((k, d) :: r) = kD k :: kys r := rfl
@[simp] theorem oSortedA_nil : oSortedA (.dk []) = some (.l []) := rfl
@[simp] theorem oSortedA_lst (l) : oSortedA (.lst l) = oSorted (.lst l) := rfl
@[simp] theorem oSortedA_st (l) : oSortedA (.st l) = oSorted (.st l) := rfl
@[simp] theorem oIn_dk0 (i) : oIn (.int i) (.dk []) = some (.z (.bl false)) := rfl
@[simp] theorem oNotIn_dk0 (i) : oNotIn (.int i) (.dk []) = some (.z (.bl true)) := rfl
@[simp] theorem getK_nil {κ : Type} [DecidableEq κ] (k : κ) : getK ([] : List (κ × D)) k = none := rfl
end Ar
/-! ArPs: words compared. -/
namespace Ar
open PySem PySem.Spec PyProof.Rows L2
end Ar
/-! ArPt: dict(pairs), dict(d). -/
namespace Ar
open PySem PySem.Spec PyProof.Rows L2
theorem Paired.imp {α β : Type} {P Q : α → β → Prop} (h : ∀ a b, P a b → Q a b) : ∀ {l : List α} {m : List β}, Paired P l m → Paired Q l m
  | _, _, .nil => .nil
  | _, _, .cons a t => .cons (h _ _ a) (Paired.imp h t)
section
variable {X : Cx} {W : WX} {a : Expr} {pos p : Pos} {ma : M D}
end
/-! ### an owned thing is frozen ahead of a statement -/
def frzS (i : Nat) (n : S) : S := fun ts => match ts[i]? with
  | some t => (match t.fz with
    | some d => n (ts.set i (.z d))
    | none => .bad)
  | none => .bad
section
variable {X : Cx} {W : WX} {bs : List Nat} {st : Stmt} {n : S} {i : Nat}
end
def frzSO (i : Nat) (n : S) (ts : List T) : Option T → RS
  | some t => (match t.fz with
    | some d => n (ts.set i (.z d))
    | none => .bad)
  | none => .bad
@[simp] theorem frzS_ap (i n ts) : frzS i n ts = frzSO i n ts ts[i]? := by unfold frzS frzSO; cases ts[i]? <;> rfl
def frzSD (i : Nat) (n : S) (ts : List T) : Option D → RS
  | some d => n (ts.set i (.z d))
  | none => .bad
@[simp] theorem frzSO_some (i n ts t) : frzSO i n ts (some t) = frzSD i n ts t.fz := by first | (unfold frzSO frzSD; dsimp only; done) | (unfold frzSO frzSD; dsimp only; cases t.fz <;> rfl)
@[simp] theorem frzSD_some (i n ts d) : frzSD i n ts (some d) = n (ts.set i (.z d)) := rfl
end Ar
/-! ArPu: sorted of a dict with any number of keys. -/
namespace Ar
open PySem PySem.Spec PyProof.Rows L2
def keyCap : Nat := 4000
def oSortedB : D → Option T
  | .dk kvs => match keyInts (kvs.map (·.1)) with
    | some ns => if ns.length ≤ keyCap then some (.l ((isort ns).map fun i => .z (.int i))) else none
    | none => none
  | d => oSorted d
section
variable {X : Cx} {W : WX} {a : Expr} {pos p : Pos} {ma : M D}
end
@[simp] theorem oSortedB_nil : oSortedB (.dk []) = some (.l []) := rfl
@[simp] theorem oSortedB_lst (l) : oSortedB (.lst l) = oSorted (.lst l) := rfl
@[simp] theorem oSortedB_st (l) : oSortedB (.st l) = oSorted (.st l) := rfl
end Ar
/-! ArPv: dicts with numbers for keys, as lists of pairs. -/
namespace Ar
open PySem PySem.Spec PyProof.Rows L2
section
variable {α β : Type}
def aGet (l : List (Int × α)) (k : Int) : Option α := match l with
  | [] => none
  | (j, v) :: r => if j = k then some v else aGet r k
@[simp] theorem aGet_nil (k) : aGet ([] : List (Int × α)) k = none := rfl
/-! ### as a dict -/
def aD (f : α → D) (l : List (Int × α)) : List (Key × D) := l.map fun p => (.inl p.1, f p.2)
@[simp] theorem aD_nil (f : α → D) : aD f [] = [] := rfl
variable {f : α → D} {l : List (Int × α)} {k : Int}
end
end Ar
/-! ArPw: enumerate over a tuple. -/
namespace Ar
open PySem PySem.Spec PyProof.Rows L2
open AutoSeq1 (wpAny_loadPart')
section
variable {g : Gx}
end
def enumB : D → Option (List D)
  | .lst l => some (enumD 0 l)
  | .tup l => some (enumD 0 l)
  | _ => none
@[simp] theorem enumB_lst (l) : enumB (.lst l) = some (enumD 0 l) := rfl
@[simp] theorem enumB_tup (l) : enumB (.tup l) = some (enumD 0 l) := rfl
section
variable {X : Cx} {W : WX} {e : Expr} {p pos tpos : Pos} {ma : M D}
end
end Ar
/-! ArPx: way[k] read, the way's root owned; a comprehension over a dict at a way, run. -/
namespace Ar
open PySem PySem.Spec PyProof.Rows L2
def ixPO (d : D) (ts : List T) : Option T → R T
  | some (.dk xs) => (match D.key d with
    | some kk => (match getA kk xs with
      | some (.z y) => .ok (.z y) ts
      | _ => .bad)
    | none => .bad)
  | _ => .bad
def ixP (i : Nat) (p : List Stp) (mk : M D) : M T := fun ts => if isKO (getS i p ts) = true then (aside i mk >>= fun d ts1 => ixPO d ts1 (getS i p ts1)) ts else .bad
section
variable {X : Cx} {W : WX} {o e : Expr} {pos : Pos} {i : Nat} {p : List Stp}
end
@[simp] theorem ixP_ap (i p mk ts) : ixP i p mk ts = if isKO (getS i p ts) = true then (aside i mk ts).and fun d ts1 => ixPO d ts1 (getS i p ts1) else .bad := by
  unfold ixP
  split <;> first | rw [bind_ap] | rfl
/-! a comprehension over a dict at a way -/
def cpK (r : R T) : R T := match r with
  | .ok t ts => .ok t ts
  | _ => .bad
@[simp] theorem cpK_ok (t ts) : cpK (.ok t ts) = .ok t ts := rfl
def compKO (vs : List Nat) (put : D → List T → Option (List T)) (mc : M Bool) (me : M D) (ts : List T) : Option D → R T
  | some (.dk ds) => cpK (compM (fun us => .ok (kys ds) us) vs put mc me ts)
  | _ => .bad
@[simp] theorem compKO_dk (vs put mc me ts ds) : compKO vs put mc me ts (some (.dk ds)) = cpK (compM (fun us => .ok (kys ds) us) vs put mc me ts) := rfl
@[simp] theorem compK_ap (i p vs put mc me ts) : compK i p vs put mc me ts = compKO vs put mc me ts (getF i p ts) := by
  unfold compK compKO cpK
  cases getF i p ts with
  | none => rfl
  | some d => cases d <;> rfl
end Ar
/-! ArPy: one slot lent while an expression runs that may change the others. -/
namespace Ar
open PySem PySem.Spec PyProof.Rows L2
/-- what the other slots may be behind it -/
def okB (j : Nat) (ts ts' : List T) : Prop := ts'.length = ts.length ∧ ∀ k t', k ≠ j → ts'[k]? = some t' → t'.fresh = true ∨ (t'.isZ = true ∧ ts[k]? = some t')
open Classical in
noncomputable def ljR (j : Nat) (t0 : T) (ts : List T) : R T → R T
  | .ok t ts' => if t.fresh = true ∧ okB j ts ts' then .ok t (ts'.set j t0) else .bad
  | .ex c ts' => if okB j ts ts' then .ex c (ts'.set j t0) else .bad
  | .bad => .bad
noncomputable def ljD (j : Nat) (m : M T) (t0 : T) (ts : List T) : Option D → R T
  | some d0 => ljR j t0 ts (m (ts.set j (.z d0)))
  | none => .bad
noncomputable def ljT (j : Nat) (m : M T) (ts : List T) : Option T → R T
  | some t0 => ljD j m t0 ts t0.fz
  | none => .bad
noncomputable def lendJ (j : Nat) (m : M T) : M T := fun ts => ljT j m ts ts[j]?
theorem ROs.imp {g : Gx} {F F2 : Hp} : ∀ {M : Hp} {vs : List V} {ts us : List T}, ROs g F M vs ts → us.length = ts.length → (∀ (i : Nat) (v : V) (t u : T), vs[i]? = some v → ts[i]? = some t → us[i]? = some u → ∀ M1, RO g F M1 v t → RO g F2 M1 v u) → ROs g F2 M vs us
  | _, _, _, [], .nil, _, _ => .nil
  | _, _, _, u :: us, .cons h1 h2 h3 h4 h5, hl, h => .cons (h 0 _ _ u rfl rfl rfl _ h1) (ROs.imp h2 (by simpa using hl) fun i v t u' e1 e2 e3 => h (i + 1) v t u' (by simpa using e1) (by simpa using e2) (by simpa using e3)) h3 h4 h5
section
variable {g : Gx} {F Mm G H A : Hp} {σ : L2.St} {ts : List T} {j : Nat} {v : V} {t0 : T} {d0 : D}
end
section
variable {X : Cx} {W : WX} {e : Expr} {j : Nat}
end
@[simp] theorem lendJ_ap (j m ts) : lendJ j m ts = ljT j m ts ts[j]? := rfl
@[simp] theorem ljT_some (j m ts t0) : ljT j m ts (some t0) = ljD j m t0 ts t0.fz := rfl
@[simp] theorem ljD_some (j m t0 ts d0) : ljD j m t0 ts (some d0) = ljR j t0 ts (m (ts.set j (.z d0))) := rfl
end Ar
/-! ArPz: slices of tuples, the whole one too. -/
namespace Ar
open PySem PySem.Spec PyProof.Rows L2
def oSlA (x : D) (lo hi : Option Int) : Option T :=
  match x with
  | .tup l => some (.z (.tup (cutD l lo hi)))
  | _ => none
@[simp] theorem oSlA_tup (l lo hi) : oSlA (.tup l) lo hi = some (.z (.tup (cutD l lo hi))) := rfl
section
variable {g : Gx} {F H : Hp}
end
section
variable {P : AProg} {X : Cx} {W : WX}
def slMA (ma : M D) (lo hi : Option (M D)) : M T := ma >>= fun d => optI lo >>= fun l => optI hi >>= fun h => opt (oSlA d l h)
@[simp] theorem slMA_ap (ma lo hi ts) : slMA ma lo hi ts = (ma ts).and fun d ts1 => (optI lo ts1).and fun l ts2 => (optI hi ts2).and fun h ts3 => opt (oSlA d l h) ts3 := by
  unfold slMA
  rw [bind_ap]
  congr 1
end
end Ar
/-! ArQa: one slot lent that holds no list; what comes of it may hold lists. -/
namespace Ar
open PySem PySem.Spec PyProof.Rows L2
mutual
def D.lat : D → Bool
  | .non => true
  | .bl _ => true
  | .int _ => true
  | .str _ => true
  | .fn _ => true
  | .tup l => D.lats l
  | .lst l => D.lats l
  | _ => false
def D.lats : List D → Bool
  | [] => true
  | d :: ds => D.lat d && D.lats ds
end
mutual
def T.lat : T → Bool
  | .z d => d.lat
  | .l ts => T.latss ts
  | .dk kvs => T.latk kvs
  | .dt kvs => false
  | .ob _ fs => T.lato fs
  | .tp ts => T.latss ts
  | .gone => true
def T.latss : List T → Bool
  | [] => true
  | t :: ts => T.lat t && T.latss ts
def T.latk : List (Key × T) → Bool
  | [] => true
  | (_, t) :: ts => T.lat t && T.latk ts
def T.lato : List (Str × T) → Bool
  | [] => true
  | (_, t) :: ts => T.lat t && T.lato ts
end
mutual
def T.noL : T → Bool
  | .z _ => true
  | .l _ => false
  | .dk kvs => T.noLk kvs
  | .dt _ => true
  | .ob _ fs => T.noLo fs
  | .tp ts => T.noLs ts
  | .gone => true
def T.noLs : List T → Bool
  | [] => true
  | t :: ts => T.noL t && T.noLs ts
def T.noLk : List (Key × T) → Bool
  | [] => true
  | (_, t) :: ts => T.noL t && T.noLk ts
def T.noLo : List (Str × T) → Bool
  | [] => true
  | (_, t) :: ts => T.noL t && T.noLo ts
end
theorem latk_map : ∀ {ts : List (Key × T)}, T.latk ts = true → T.latss (ts.map (·.2)) = true
  | [], _ => by rw [List.map_nil, T.latss]
  | (k, t) :: ts, e => by
    rw [T.latk, Bool.and_eq_true] at e
    rw [List.map_cons, T.latss, e.1, latk_map e.2]; rfl
theorem lato_map : ∀ {ts : List (Str × T)}, T.lato ts = true → T.latss (ts.map (·.2)) = true
  | [], _ => by rw [List.map_nil, T.latss]
  | (k, t) :: ts, e => by
    rw [T.lato, Bool.and_eq_true] at e
    rw [List.map_cons, T.latss, e.1, lato_map e.2]; rfl
theorem noLk_map : ∀ {ts : List (Key × T)}, T.noLk ts = true → T.noLs (ts.map (·.2)) = true
  | [], _ => by rw [List.map_nil, T.noLs]
  | (k, t) :: ts, e => by
    rw [T.noLk, Bool.and_eq_true] at e
    rw [List.map_cons, T.noLs, e.1, noLk_map e.2]; rfl
theorem noLo_map : ∀ {ts : List (Str × T)}, T.noLo ts = true → T.noLs (ts.map (·.2)) = true
  | [], _ => by rw [List.map_nil, T.noLs]
  | (k, t) :: ts, e => by
    rw [T.noLo, Bool.and_eq_true] at e
    rw [List.map_cons, T.noLs, e.1, noLo_map e.2]; rfl
def NoL (M : Hp) : Prop := ∀ a xs, M a ≠ some (.lst xs)
theorem nol_em : NoL em := fun a xs e => by cases e
theorem NoL.jn {A B : Hp} (h : NoL A) (k : NoL B) : NoL (jn A B) := fun a o e => by
  rcases jn_some e with q | q
  · exact h a o q
  · exact k a o q
theorem NoL.upd {A : Hp} {p : Addr} {u : HO} (h : NoL A) (k : ∀ xs, u ≠ .lst xs) : NoL (upd A p u) := fun a o e => by
  by_cases q : a = p
  · subst q
    rw [upd_same] at e
    injection e with e
    exact k o e
  · rw [upd_ne q] at e
    exact h a o e
theorem mn_lst {F M : Hp} {a : Addr} {xs : List V} (e : F a = some (.lst xs)) (n : NoL M) (s : Same M F) : mn F M a = some (.lst xs) := by
  unfold mn
  cases q : M a with
  | none => exact e
  | some u =>
    have := s a u q
    rw [e] at this
    injection this with this
    subst this
    exact absurd q (n a xs)
section
variable {g : Gx} {F M0 : Hp}
mutual
theorem Rp.lat (c : Cells M0) (n : NoL M0) (s : Same M0 F) : ∀ {v d}, Rp g F v d → d.lat = true → Rp g (mn F M0) v d
  | _, _, .non, _ => .non
  | _, _, .bl b, _ => .bl b
  | _, _, .int b, _ => .int b
  | _, _, .str b, _ => .str b
  | _, _, .fn b, _ => .fn b
  | _, _, .tup h r, e => .tup (mn_at h c s (fun z => z)) (RpAll.lat c n s r (by rw [D.lat] at e; exact e))
  | _, _, .ktup h l r, e => .ktup h l (RpAll.lat c n s r (by rw [D.lat] at e; exact e))
  | _, _, .lst h r, e => .lst (mn_lst h n s) (RpAll.lat c n s r (by rw [D.lat] at e; exact e))
  | _, _, .dk _ _ _, e => by rw [D.lat] at e <;> first | cases e | (intros; simp_all)
  | _, _, .dt _ _ _, e => by rw [D.lat] at e <;> first | cases e | (intros; simp_all)
  | _, _, .st _ _ _, e => by rw [D.lat] at e <;> first | cases e | (intros; simp_all)
  | _, _, .scr _, e => by rw [D.lat] at e <;> first | cases e | (intros; simp_all)
  | _, _, .ob _ _ _ _ _, e => by rw [D.lat] at e <;> first | cases e | (intros; simp_all)
theorem RpAll.lat (c : Cells M0) (n : NoL M0) (s : Same M0 F) : ∀ {v d}, RpAll g F v d → D.lats d = true → RpAll g (mn F M0) v d
  | _, _, .nil, _ => .nil
  | _, _, .cons h r, e => by
    rw [D.lats, Bool.and_eq_true] at e
    exact .cons (Rp.lat c n s h e.1) (RpAll.lat c n s r e.2)
end
mutual
theorem RO.latF (c : Cells M0) (n : NoL M0) (s : Same M0 F) : ∀ {M v t}, RO g F M v t → t.lat = true → RO g (mn F M0) M v t
  | _, _, .z d, .z h, e => .z (h.lat c n s (by rw [T.lat] at e; exact e))
  | _, _, .l ts, .l h1 h2 h3 h4, e => .l h1 h2 h3 (ROs.latF c n s h4 (by rw [T.lat] at e; exact e))
  | _, _, .dk ts, .dk h1 h2 h3 h4 h5, e => .dk h1 h2 h3 h4 (ROs.latF c n s h5 (latk_map (by rw [T.lat] at e; exact e)))
  | _, _, _, .dt h1 h2 h3, e => by rw [T.lat] at e; cases e
  | _, _, .ob m ts, .ob h1 h2 h3 h4 h5 h6 h7 h8, e => .ob h1 h2 h3 h4 h5 h6 h7 (ROs.latF c n s h8 (lato_map (by rw [T.lat] at e; exact e)))
  | _, _, .tp ts, .tp h1 h2, e => .tp (mn_at h1 c s (fun z => z)) (ROs.latF c n s h2 (by rw [T.lat] at e; exact e))
  | _, _, _, .gone, e => .gone
theorem ROs.latF (c : Cells M0) (n : NoL M0) (s : Same M0 F) : ∀ {M vs ts}, ROs g F M vs ts → T.latss ts = true → ROs g (mn F M0) M vs ts
  | _, _, _, .nil, _ => .nil
  | _, _, t :: ts, .cons h1 h2 h3 h4 h5, e => by
    rw [T.latss, Bool.and_eq_true] at e
    exact .cons (RO.latF c n s h1 e.1) (ROs.latF c n s h2 e.2) h3 h4 h5
end
end
mutual
theorem RO.shrinkN {g : Gx} {F : Hp} : ∀ {M v t}, RO g F M v t → t.noL = true → ∃ M0, Same M0 M ∧ Cells M0 ∧ NoL M0 ∧ RO g F M0 v t
  | _, _, _, .z h, _ => ⟨em, Same.empty, cells_em, nol_em, .z h⟩
  | _, _, _, .l h1 h2 h3 h4, e => by rw [T.noL] at e; cases e
  | _, _, _, .dk (a := a) (kvs := kvs) h1 h2 h3 h4 h5, e => by
    obtain ⟨M0, s, c, n0, r⟩ := ROs.shrinkN h5 (noLk_map (by rw [T.noL] at e; exact e))
    have n := s.free h3
    exact ⟨upd M0 a (.dK kvs), same_upd_l (s.trans h2) h1, c.upd (u := .dK kvs) trivial, n0.upd (by intro xs z; cases z), .dk upd_same (same_upd n) n h4 r⟩
  | _, _, _, .dt (a := a) (kvs := kvs) h1 h2 h3, _ => ⟨upd em a (.dT kvs), same_upd_l Same.empty h1, cells_em.upd (u := .dT kvs) trivial, nol_em.upd (by intro xs z; cases z), .dt upd_same h2 h3⟩
  | _, _, _, .ob (a := a) (C := C) (dx := dx) (fs := fs) h1 h2 h3 h4 h5 h6 h7 h8, e => by
    obtain ⟨M0, s, c, n0, r⟩ := ROs.shrinkN h8 (noLo_map (by rw [T.noL] at e; exact e))
    have n1 := s.free h5
    have n2 := s.free h6
    have hne : a ≠ dx := by intro e; rw [← e, h2] at h3; cases h3
    have nn : (upd M0 dx (.own a)) a = none := by rw [upd_ne hne]; exact n1
    exact ⟨upd (upd M0 dx (.own a)) a (.ins C dx fs), same_upd_l (same_upd_l (s.trans h4) h3) h2, (c.upd (u := .own a) trivial).upd (u := .ins C dx fs) trivial, (n0.upd (by intro xs z; cases z)).upd (by intro xs z; cases z), .ob h1 upd_same (by rw [upd_ne (Ne.symm hne)]; exact upd_same) ((same_upd n2).trans (same_upd nn)) n1 n2 h7 r⟩
  | _, _, _, .tp h1 h2, e => by
    obtain ⟨M0, s, c, n0, r⟩ := ROs.shrinkN h2 (by rw [T.noL] at e; exact e)
    exact ⟨M0, s, c, n0, .tp h1 r⟩
  | _, _, _, .gone, _ => ⟨em, Same.empty, cells_em, nol_em, .gone⟩
theorem ROs.shrinkN {g : Gx} {F : Hp} : ∀ {M vs ts}, ROs g F M vs ts → T.noLs ts = true → ∃ M0, Same M0 M ∧ Cells M0 ∧ NoL M0 ∧ ROs g F M0 vs ts
  | _, _, _, .nil, _ => ⟨em, Same.empty, cells_em, nol_em, .nil⟩
  | _, _, _, .cons h1 h2 h3 h4 h5, e => by
    rw [T.noLs, Bool.and_eq_true] at e
    obtain ⟨A, sA, cA, nA, rA⟩ := RO.shrinkN h1 e.1
    obtain ⟨B, sB, cB, nB, rB⟩ := ROs.shrinkN h2 e.2
    have d := h5.sub sA sB
    exact ⟨jn A B, jn_sub (sA.trans h3) (sB.trans h4), cA.jn cB, nA.jn nB, .cons rA rB jn_l (jn_r d) d⟩
end
/-- what the other slots may be behind it -/
def okL (j : Nat) (ts ts' : List T) : Prop := ts'.length = ts.length ∧ ∀ k t', k ≠ j → ts'[k]? = some t' → t'.lat = true ∨ (t'.isZ = true ∧ ts[k]? = some t')
section
variable {g : Gx} {F Mm G H A : Hp} {σ : L2.St} {ts : List T} {j : Nat} {v : V} {t0 : T} {d0 : D}
end
open Classical in
noncomputable def llR (j : Nat) (t0 : T) (ts : List T) : R T → R T
  | .ok t ts' => if (t.lat = true ∧ t0.noL = true) ∧ okL j ts ts' then .ok t (ts'.set j t0) else .bad
  | .ex c ts' => if t0.noL = true ∧ okL j ts ts' then .ex c (ts'.set j t0) else .bad
  | .bad => .bad
noncomputable def llD (j : Nat) (m : M T) (t0 : T) (ts : List T) : Option D → R T
  | some d0 => llR j t0 ts (m (ts.set j (.z d0)))
  | none => .bad
noncomputable def llT (j : Nat) (m : M T) (ts : List T) : Option T → R T
  | some t0 => llD j m t0 ts t0.fz
  | none => .bad
noncomputable def lendL (j : Nat) (m : M T) : M T := fun ts => llT j m ts ts[j]?
section
variable {X : Cx} {W : WX} {e : Expr} {j : Nat}
end
@[simp] theorem lendL_ap (j m ts) : lendL j m ts = llT j m ts ts[j]? := rfl
@[simp] theorem llT_some (j m ts t0) : llT j m ts (some t0) = llD j m t0 ts t0.fz := rfl
@[simp] theorem llD_some (j m t0 ts d0) : llD j m t0 ts (some d0) = llR j t0 ts (m (ts.set j (.z d0))) := rfl
end Ar
/-! ArQb: a comprehension over a lent slot that holds no list, stored in a name. -/
namespace Ar
open PySem PySem.Spec PyProof.Rows L2
section
variable {X : Cx} {W : WX} {j : Nat}
end
section
variable {X : Cx} {W : WX} {bs : List Nat}
end
end Ar
/-! ArQc: a dict beside the empty one. -/
namespace Ar
open PySem PySem.Spec PyProof.Rows L2
section
variable {X : Cx}
end
end Ar
/-! ArQd: [x] * n. -/
namespace Ar
open PySem PySem.Spec PyProof.Rows L2
def repD (ds : List D) : Nat → List D
  | 0 => []
  | n + 1 => ds ++ repD ds n
def oRep (x y : D) : Option T := match x, y with
  | .lst a, .int k => if (-1000000 ≤ k ∧ k ≤ 1000000) ∧ a.length * k.toNat ≤ lim then some (.l ((repD a k.toNat).map .z)) else none
  | _, _ => none
@[simp] theorem oRep_ap (a : List D) (k : Int) : oRep (.lst a) (.int k) = if (-1000000 ≤ k ∧ k ≤ 1000000) ∧ a.length * k.toNat ≤ lim then some (.l ((repD a k.toNat).map .z)) else none := rfl
end Ar
/-! ArQe: x or y, where x is a tuple. -/
namespace Ar
open PySem PySem.Spec PyProof.Rows L2
section
variable {X : Cx} {W : WX} {pos : Pos} {a b : Expr} {es : List Expr}
def orTk (n : M T) (t : T) : M T := match t with
  | .z (.tup l) => if l.isEmpty = true then n else M.ret (.z (.tup l))
  | _ => stop
def orTM (m n : M T) : M T := m >>= orTk n
@[simp] theorem orTM_ap (m n : M T) (ts) : orTM m n ts = (m ts).and fun t ts1 => orTk n t ts1 := by
  unfold orTM
  rfl
end
end Ar
/-! ArQf: isinstance of what is caught and a class of the language's own; a test that asks that first and something else then. -/
namespace Ar
open PySem PySem.Spec PyProof.Rows L2
section
variable {X : Cx} {W : WX} {bs : List Nat} {pos p p2 pos' np : Pos}
end
/-! the facts, asked at once -/
inductive IsBL (K : PySem.W.Frag) (mg : Str → Option Value) (T : String) : List (Str × Bool) → Prop
  | nil : IsBL K mg T []
  | cons {x : Str} {b : Bool} {C : Addr} {l : List (Str × Bool)} : mg x = some (.ref C) → PySem.W.kitOne K (.ref C) (.type T) = some b → ExcC K C → IsBL K mg T l → IsBL K mg T ((x, b) :: l)
theorem IsBL.find {K : PySem.W.Frag} {mg : Str → Option Value} {T : String} : ∀ {l : List (Str × Bool)}, IsBL K mg T l → ∀ e b C, l.lookup e = some b → mg e = some (.ref C) → PySem.W.kitOne K (.ref C) (.type T) = some b ∧ ExcC K C
  | _, .nil, e, b, C, h, _ => by simp at h
  | _, .cons (x := x) hm hx E r, e, b, C, h, hC => by
    rw [List.lookup_cons] at h
    cases q : e == x with
    | true =>
      rw [q] at h
      have ex : e = x := beq_iff_eq.mp q
      subst ex
      rw [hm] at hC
      cases hC
      cases h
      exact ⟨hx, E⟩
    | false => rw [q] at h; exact r.find e b C h hC
end Ar
/-! ArQg: two owned lists put together, their things staying owned. -/
namespace Ar
open PySem PySem.Spec PyProof.Rows L2
section
variable {X : Cx} {W : WX} {pos : Pos} {a b : Expr}
def addT (t u : T) : M T := match t, u with
  | .l ts, .l us => if ts.length + us.length ≤ lim then M.ret (.l (ts ++ us)) else stop
  | _, _ => stop
def addO (ma mb : M T) : M T := ma >>= fun t => mb >>= fun u => addT t u
@[simp] theorem addO_ap (ma mb : M T) (ts) : addO ma mb ts = (ma ts).and fun t ts1 => (mb ts1).and fun u ts2 => addT t u ts2 := by
  unfold addO
  rw [bind_ap]
  congr 1
end
end Ar
/-! ArQh: what one field's list gives up is put at the end of another's: way.f.append(way.g.pop()). -/
namespace Ar
open PySem PySem.Spec PyProof.Rows L2
def apQ (i : Nat) (p q : List Stp) (ts : List T) : Option T → R T
  | some (.l ys) => (match ys.getLast? with
    | some t => apP i p t (putSl i q (.l ys.dropLast) ts) (getS i p (putSl i q (.l ys.dropLast) ts))
    | none => .bad)
  | _ => .bad
def apPop (i : Nat) (p q : List Stp) : M T := fun ts => apQ i p q ts (getS i q ts)
@[simp] theorem apPop_ap (i p q ts) : apPop i p q ts = apQ i p q ts (getS i q ts) := rfl
section
variable {X : Cx} {W : WX} {o o2 : Expr} {apos cpos apos2 cpos2 : Pos} {i : Nat} {c x : Str} {q : List Stp}
end
end Ar
/-! ArQi: a list put together with what isinstance tells of the caught. -/
namespace Ar
open PySem PySem.Spec PyProof.Rows L2
section
variable {X : Cx} {W : WX} {bs : List Nat} {pos p pos' bpos : Pos} {i : Nat} {a : Addr} {os : List (Option Bool)} {es : List Expr} {l : Expr} {ml : M D}
end
end Ar
/-! ArQj: what is lent comes back, slot by slot. -/
namespace Ar
open PySem PySem.Spec PyProof.Rows L2
def PF (a b : T) : Prop := b.fresh = true ∨ (b.isZ = true ∧ a = b)
def PL (a b : T) : Prop := b.lat = true ∨ (b.isZ = true ∧ a = b)
def Hv (t : T) : Prop := t.lat = true ∨ t.isZ = true
def Hf (t : T) : Prop := t.fresh = true ∨ t.isZ = true
theorem Hv.p {t : T} (h : Hv t) : PL t t := h.imp id fun z => ⟨z, rfl⟩
theorem Hf.p {t : T} (h : Hf t) : PF t t := h.imp id fun z => ⟨z, rfl⟩
end Ar
/-! ArQk: two dicts beside each other. -/
namespace Ar
open PySem PySem.Spec PyProof.Rows L2
section
variable {K : PySem.W.Frag} {H : Hp}
end
section
variable {X : Cx}
end
end Ar
/-! ArQl: sorted of a tuple of whole numbers. -/
namespace Ar
open PySem PySem.Spec PyProof.Rows L2
/-- sorted of a list, a set or a tuple of whole numbers -/
def oSortedT : D → Option T
  | .tup l => match intsD l with | some ns => some (.l ((isort ns).map fun i => .z (.int i))) | none => none
  | d => oSorted d
section
variable {X : Cx} {W : WX} {a : Expr} {pos p : Pos} {ma : M D}
end
@[simp] theorem oSortedT_lst (l) : oSortedT (.lst l) = oSorted (.lst l) := rfl
@[simp] theorem oSortedT_st (l) : oSortedT (.st l) = oSorted (.st l) := rfl
@[simp] theorem oSortedT_nD (l : List Int) : oSortedT (.tup (nD l)) = some (.l (nT (isort l))) := by
  show (match intsD (nD l) with | some ns => some (T.l ((isort ns).map fun i => .z (.int i))) | none => none) = _
  have : intsD (nD l) = some l := ints_of l
  rw [this]
  rfl
end Ar
/-! ArQm: f-strings of texts and whole numbers. -/
namespace Ar
open PySem PySem.Spec PyProof.Rows L2
def fmtD : D → Option Str
  | .str y => if y.length ≤ lim then some y else none
  | .int i => if i.natAbs < oStr.bigS then some (Str.ofString (toString i)) else none
  | _ => none
def fmM (m : M D) : M D := m >>= fun d => match fmtD d with
  | some y => M.ret (.str y)
  | none => stop
def fsA : Str → List (M D) → M T
  | acc, [] => M.ret (.z (.str acc))
  | acc, m :: ms => m >>= fun d => match d with
    | .str y => if (acc ++ y).length ≤ lim then fsA (acc ++ y) ms else stop
    | _ => stop
def fsM (ms : List (M D)) : M T := fsA Str.empty ms
section
variable {X : Cx} {W : WX} {e : Expr} {es : List Expr} {pos : Pos} {m : M D} {ms : List (M D)}
end
@[simp] theorem fmM_ap (m : M D) (ts) : fmM m ts = (m ts).and fun d ts1 => opt ((fmtD d).map D.str) ts1 := by
  unfold fmM
  rw [bind_ap]
  congr 1
  funext d ts1
  cases fmtD d <;> rfl
@[simp] theorem fsM_ap (ms ts) : fsM ms ts = fsA Str.empty ms ts := rfl
@[simp] theorem fsA_nil (acc ts) : fsA acc [] ts = .ok (.z (.str acc)) ts := rfl
@[simp] theorem fsA_cons (acc m ms ts) : fsA acc (m :: ms) ts = (m ts).and fun d ts1 => match d with
    | .str y => if (acc ++ y).length ≤ lim then fsA (acc ++ y) ms ts1 else .bad
    | _ => .bad := by
  rw [fsA, bind_ap]
  congr 1
  funext d ts1
  cases d with
  | str y =>
    dsimp only
    split <;> rfl
  | _ => rfl
@[simp] theorem fmtD_str (y : Str) : fmtD (.str y) = if y.length ≤ lim then some y else none := rfl
@[simp] theorem fmtD_int (i : Int) : fmtD (.int i) = if i.natAbs < oStr.bigS then some (Str.ofString (toString i)) else none := rfl
end Ar
/-! ArQn: f(x.a, ..): what is owned at a way handed over to a def, and given back. -/
namespace Ar
open PySem PySem.Spec PyProof.Rows L2
def notGw : T → Bool
  | .gone => false
  | _ => true
section
variable {X : Cx} {W : WX} {e : Expr} {es : List Expr} {pos pn : Pos} {i : Nat} {p : List Stp} {x : Str}
def callP (i : Nat) (p : List Stp) (f : List T → R T) (tks : List (Option Nat)) (ms : M (List T)) : M T := fun ts => match ts[i]? with
  | some t0 => (match T.getO t0 p with
    | some u => if notGw u = true then (match ms (ts.set i .gone) with
      | .ok tl ts1 => if i < ts1.length then obRes i p t0 tks tl ts1 (f (u :: tl)) else .bad
      | _ => .bad) else .bad
    | none => .bad)
  | none => .bad
end
def cpR (i : Nat) (p : List Stp) (t0 : T) (tks : List (Option Nat)) (f : List T → R T) (u : T) : R (List T) → R T
  | .ok tl ts1 => if i < ts1.length then obRes i p t0 tks tl ts1 (f (u :: tl)) else .bad
  | _ => .bad
@[simp] theorem cpR_ok (i p t0 tks f u tl ts1) : cpR i p t0 tks f u (.ok tl ts1) = if i < ts1.length then obRes i p t0 tks tl ts1 (f (u :: tl)) else .bad := rfl
def cpU (i : Nat) (p : List Stp) (t0 : T) (tks : List (Option Nat)) (f : List T → R T) (r : R (List T)) : Option T → R T
  | some u => if notGw u = true then cpR i p t0 tks f u r else .bad
  | none => .bad
@[simp] theorem cpU_some (i p t0 tks f r u) : cpU i p t0 tks f r (some u) = if notGw u = true then cpR i p t0 tks f u r else .bad := rfl
def cpO (i : Nat) (p : List Stp) (f : List T → R T) (tks : List (Option Nat)) (ms : M (List T)) (ts : List T) : Option T → R T
  | some t0 => cpU i p t0 tks f (ms (ts.set i .gone)) (T.getO t0 p)
  | none => .bad
@[simp] theorem cpO_some (i p f tks ms ts t0) : cpO i p f tks ms ts (some t0) = cpU i p t0 tks f (ms (ts.set i .gone)) (T.getO t0 p) := rfl
@[simp] theorem callP_ap (i p f tks ms) (ts : List T) : callP i p f tks ms ts = cpO i p f tks ms ts ts[i]? := by
  unfold callP cpO cpU cpR
  cases ts[i]? with
  | none => rfl
  | some t0 =>
    first
    | (simp only; done)
    | (simp only
       cases T.getO t0 p with
       | none => rfl
       | some u =>
         simp only
         by_cases c : notGw u = true
         · rw [if_pos c, if_pos c]
           cases ms (ts.set i .gone) <;> rfl
         · rw [if_neg c, if_neg c])
end Ar
/-! ArQo: TABLE.get(key, else) of a table of the module. -/
namespace Ar
open PySem PySem.Spec PyProof.Rows L2
section
variable {X : Cx} {W : WX} {x : Str} {tab : List (Str × D)} {e f : Expr} {pn apos cpos : Pos} {mk mz : M D} {d : Addr} {es : Array DictEntry} {n : Nat} {ty tx : TE}
def oGetG (tab : List (Str × D)) (k z : D) : Option T := match k with
  | .str s => some (.z ((lookS tab s).getD z))
  | _ => none
def getG (tab : List (Str × D)) (mk mz : M D) : M T := mk >>= fun k => mz >>= fun z => fun ts => opt (oGetG tab k z) ts
@[simp] theorem getG_ap (tab mk mz) (ts : List T) : getG tab mk mz ts = (mk ts).and fun k ts1 => (mz ts1).and fun z ts2 => opt (oGetG tab k z) ts2 := by
  unfold getG
  rw [bind_ap]
  congr 1
@[simp] theorem oGetG_str (tab z) (s : Str) : oGetG tab (.str s) z = some (.z ((lookS tab s).getD z)) := rfl
end
end Ar
/-! ArQp: a comprehension whose element may raise. -/
namespace Ar
open PySem PySem.Spec PyProof.Rows L2
section
variable {M : Model} {A : Around} {E : Value → Shared → Prop} {s : Shared} {Z : Obj → Prop} {base : Heap} {env : Env} {outer : List Env} {L C e : Addr} {fl : Value}
/-- an exception that another frame holds is noted here -/
theorem move_onZ {Q : Unit → Shared → Prop} (hZ : HandSPX.Steady Z) (hfr : A.frames = some (env :: outer)) (hf : env.frame = some L) (hkb : base.StaysIn s.heap) (hen : base.get? e = none) (hl : s.heap.FunFrames base (env :: outer)) (ht : HandSPX.TracedZ s.heap base e Z fl) (hfl : ¬ (fl == rawInt L) = true)
    (hQ : ∀ h', HandSPX.HeldZ base (env :: outer) e Z L h' → s.heap.UpToSlots h' → Q () { s with heap := h' }) : wpAny M A (noteFrame (.ref e) env) Q E s := by
  obtain ⟨oe, vs, T, oT, ts, he, hz, hd, h1, hnT, hTe, hT, hdT, h3⟩ := ht
  unfold noteFrame
  simp only [hf]
  refine wpAny_bind (wpAny_field he hd h1 ?_)
  rw [if_pos (show (Value.ref T != Value.none) = true from by simp)]
  refine wpAny_bind (wpAny_field hT hdT h3 ?_)
  rw [if_neg hfl]
  refine wpAny_bind (wpAny_setField hT hdT (Array.getElem?_eq_some_iff.mp h3).1 ?_)
  have off : ∀ b, b ≠ T → (s.heap.update T (Obj.mapFields (·.setIfInBounds 3 Value.none))).get? b = s.heap.get? b := fun b hb => Heap.get?_update_other _ _ (Ne.symm hb)
  have nT : ∀ b o, s.heap.get? b = some o → (∀ vs, o.data ≠ .fields vs) → b ≠ T := fun b o hb hnf q => by
    rw [q, hT] at hb; injection hb with hb; subst hb; exact hnf ts hdT
  refine HandSPX.wpAny_entryZ hZ hfr (hl.of_keeps fun b o hb hnf => ⟨o, (off b (nT b o hb hnf)).trans hb, rfl⟩) hf ((off e (Ne.symm hTe)).trans he)
    (fun b o hbo => (off b fun q => by rw [q, hnT] at hbo; cases hbo).trans (hkb b o hbo)) hen hd (Array.getElem?_eq_some_iff.mp h1).1 hz fun h' hN => ?_
  obtain ⟨x1, x2, x3, x4⟩ := hN
  exact hQ h' ⟨x1, hen, x2, x3⟩ fun b o hb hnf => x4 b o ((off b (nT b o hb hnf)).trans hb) hnf
theorem sky_hold {Q : Unit → Shared → Prop} (hZ : HandSPX.Steady Z) (hfr : A.frames = some (env :: outer)) (hf : env.frame = some L) (hCL : C ≠ L) (x : Sky base (env :: outer) e Z C s.heap)
    (hQ : ∀ h', HandSPX.HeldZ base (env :: outer) e Z L h' → s.heap.UpToSlots h' → Q () { s with heap := h' }) : wpAny M A (noteFrame (.ref e) env) Q E s := by
  rcases x with ⟨hB, hn, hl, oe, vs, he, hz, hd, h1⟩ | fl | ⟨a1, a2, a3, a4⟩
  · exact HandSPX.look_newZ hZ hfr hl hf he hB hn hd h1 hz hQ
  · exact HandSPX.looks_onZ hZ hfr hf fl hQ
  · exact move_onZ hZ hfr hf a1 a2 a3 a4 (by simp only [rawInt]; intro h; exact hCL (Int.ofNat.inj (by simpa using h))) hQ
end
/-- a block that may let an exception out -/
abbrev blkE (X : Cx) (s : Shared) (H : Hp) (scope : Scope) (cenv : Env) (fp : List Addr) (xe : Value → Shared → Prop) : Cx := { X.blk s H scope cenv fp with xe := xe }
section
variable {X : Cx} {pins : List (Addr × Obj)} {σ : L2.St} {H3 : Hp} {s3 : Shared} {W W' : WX} {scope : Scope} {ce : Env} {fp : List Addr}
theorem comp_takes {use : Option (Value → Sem Unit)} {Qf : Value → Shared → Prop} {acc : Value} (I3 : Inv X pins σ H3 s3) (hs : X.stack = X.env :: X.outer) (hf : X.env.frame = some X.env.locals) (cF : ce.frame = X.env.frame) (cL : ce.locals = s3.heap.objs.size)
    (f3 : ∀ b ∈ fp, FpOk X pins H3 b ∧ b < s3.heap.objs.size) (tk : Takes X W) (hW : ∀ cls d σ' H', W' cls d σ' H' → W cls d σ H') :
    Takes (blkE X s3 H3 scope ce fp (notedBy (model X.prog X.w) X.A ce fun e s'' => compEnds (model X.prog X.w) X.A X.xe use Qf acc ce (.error e) s'')) W' := by
  rintro u s' ⟨a, B, sI, pins', σ', H', cls, d, rfl, I, nb, up, sky, na, os, ag, w⟩
  have hfr : X.A.frames = some (X.env :: X.outer) := by rw [I3.ok.frames, hs]
  have sky : Sky B X.stack a (Zc cls d) ce.locals s'.heap := sky
  rw [hs] at sky
  have hCL : ce.locals ≠ X.env.locals := by rw [cL]; exact Nat.ne_of_gt I3.lt
  show wpAny _ X.A (noteFrame (.ref a) ce) _ _ s'
  rw [noteFrame_env _ cF]
  refine sky_hold Zc.steady hfr hf hCL sky fun h1 hh up1 => ?_
  obtain ⟨m, hn, _⟩ := I.loc
  have hn : sI.heap.Ns ce.locals m := hn
  have hn1 : h1.Ns ce.locals m := (up.trans up1).ns hn
  have key : CompFails (model X.prog X.w) X.A X.xe ce (.ref a) { s' with heap := h1 } := by
    refine ⟨m, hn1, fun h2 m2 hn2 sb => ?_⟩
    obtain ⟨b1, b0, f1, t1⟩ := hh
    have bH : ∀ b o, (PySem.W.hideAll B [ce.locals]).get? b = some o → B.get? b = some o ∧ b ≠ ce.locals := fun b o e =>
      ⟨PySem.W.of_hideAll _ e, fun z => by rw [PySem.W.hideAll_none [ce.locals] (by rw [z]; exact List.mem_singleton.mpr rfl)] at e; cases e⟩
    have bN : ∀ b, B.get? b = none → (PySem.W.hideAll B [ce.locals]).get? b = none := fun b e => by
      cases q : (PySem.W.hideAll B [ce.locals]).get? b with
      | none => rfl
      | some o => rw [(bH b o q).1] at e; cases e
    have st2 : (PySem.W.hideAll B [ce.locals]).StaysIn h2 := fun b o e => by
      obtain ⟨e1, ne⟩ := bH b o e
      exact (sb.2 b ne).trans (b1 b o e1)
    have ff2 : h2.FunFrames B (X.env :: X.outer) := Heap.FunFrames.sameBut sb hn2 f1
    have f2 : h2.FunFrames (PySem.W.hideAll B [ce.locals]) (X.env :: X.outer) := funFrames_none ff2 fun b hb => bN b (ff2.mem hb).1
    obtain ⟨oe, vs, T, oT, ts, he, hz, hd, x1, hnT, hTe, hT, hdT, x3⟩ := t1
    have nR : ∀ b o vs, h1.get? b = some o → o.data = .fields vs → b ≠ ce.locals := fun b o vs e1 e2 z => by
      obtain ⟨oC, es, ep, hoC, hdC, _⟩ := hn1
      rw [z, hoC] at e1; cases e1
      rw [hdC] at e2; cases e2
    have he2 : h2.get? a = some oe := (sb.2 a (nR a oe vs he hd)).trans he
    have hT2 : h2.get? T = some oT := (sb.2 T (nR T oT ts hT hdT)).trans hT
    unfold PySem.passOn
    refine wpAny_bind (wpAny_field he2 hd x1 ?_)
    rw [if_neg (show ¬ ((Value.ref T == Value.none) = true) from by simp), cF, hf]
    refine wpAny_bind (HandSPX.setFlight_anyZ (fr := some X.env.locals) st2 f2 ⟨oe, vs, T, oT, ts, he2, hz, hd, x1, bN _ hnT, hTe, hT2, hdT, x3⟩ fun h3 k1 k2 k3 k4 => wpAny_throw ?_)
    -- in the def's air
    have I7 : Inv X pins σ H' sI := I3.call' (ch := fp) I.os I.base I.hok I.bare fun b hb => ⟨(f3 b hb).1.2.2.2.1, (f3 b hb).1.2.1, (f3 b hb).1.2.2.2.2.1, (f3 b hb).1.2.2.2.2.2⟩
    have nC : H' ce.locals = none := I.free
    obtain ⟨g0, g1, g2, g3, g4, g5⟩ := I3.fpOk (H' := H') (b := ce.locals) (Nat.le_of_eq cL.symm) nC
    have I8 := I7.turned (h' := PySem.W.hideAll sI.heap [ce.locals]) (t' := sI.toks) (it := ce.locals) (fun b o hb e => PySem.W.hideAll_get _ e fun hm => hb (List.mem_singleton.mp hm)) g0 g1 g3 g4 g5
    refine tk _ _ ⟨a, PySem.W.hideAll B [ce.locals], { sI with heap := PySem.W.hideAll sI.heap [ce.locals] }, pins, σ, H', cls, d, rfl, I8, fun b o e hb => ?_, fun b o e hnf => ?_, ?_, na, os, ag, hW _ _ _ _ w⟩
    · have e1 : sI.heap.get? b = some o := PySem.W.of_hideAll _ e
      refine PySem.W.hideAll_get _ (nb b o e1 hb) fun hm => ?_
      have e : (PySem.W.hideAll sI.heap [ce.locals]).get? b = some o := e
      rw [PySem.W.hideAll_none _ hm] at e; cases e
    · have e : (PySem.W.hideAll sI.heap [ce.locals]).get? b = some o := e
      have e1 : sI.heap.get? b = some o := PySem.W.of_hideAll _ e
      have ne : b ≠ ce.locals := fun z => by rw [PySem.W.hideAll_none [ce.locals] (by rw [z]; exact List.mem_singleton.mpr rfl)] at e; cases e
      obtain ⟨sl, e2⟩ := (up.trans up1) b o e1 hnf
      obtain ⟨sl2, e3⟩ := k4 b _ ((sb.2 b ne).trans e2) hnf
      exact ⟨sl2, e3⟩
    · rw [hs]
      exact .inr (.inr ⟨k1, bN _ b0, k2, k3⟩)
  cases use <;> exact key
end
theorem okXe {X : Cx} (ok : X.Ok) (xe : Value → Shared → Prop) : Cx.Ok { X with xe := xe } := ⟨ok.mod, ok.kind, ok.glob, ok.blt, ok.above, ok.inj, ok.has, ok.cab, ok.hd, ok.frames, ok.stk, ok.exf, ok.bs, ok.bsz, ok.noex, ok.exfs, ok.funs, ok.frf⟩
theorem thnX {α : Type} {t : Sem α} {Q Q' : α → Shared → Prop} {M : Model} {A : Around} {E E' : Value → Shared → Prop} {s : Shared} (e : E' = E) (h : wpAny M A t Q E s) (hQ : ∀ a s, Q a s → Q' a s) : wpAny M A t Q' E' s := wpAny_mono h hQ fun _ _ z => by rw [e]; exact z
section
variable {X : Cx}
theorem lc_coreE {pins : List (Addr × Obj)} {s : Shared} {σ : L2.St} {H : Hp} {Q : VK} {W0 W1 : WX} {elt tg iter : Expr} {ifs : List Expr} {scope : Scope} {own : List (Str × Nat)} {pos pos' : Pos} {wi : TI} {g : TG} {tt : TT} {te : TE} {Qf : Value → Shared → Prop}
    (hst : X.stack = X.env :: X.outer) (hfl : X.env.frame = some X.env.locals) (tk : Takes X W0) (hW : ∀ cls d σ' H', W1 cls d σ' H' → W0 cls d σ H') (hc : X.calm = true) (hN : X.N.Nodup) (I : Inv X pins σ H s) (hi : PI X tg iter wi) (ok : BlkOk X.N X.env.scope scope own)
    (hg : ∀ (s : Shared) (H : Hp) (C : Addr) (cl : List (Str × Addr)) (fp : List Addr) (xe : Value → Shared → Prop), PG (blkE X s H scope (compEnvC scope cl C X.env) fp xe) tg g) (ht : ∀ (s : Shared) (H : Hp) (C : Addr) (cl : List (Str × Addr)) (fp : List Addr) (xe : Value → Shared → Prop), PTs (blkE X s H scope (compEnvC scope cl C X.env) fp xe) ifs tt)
    (he : ∀ (s : Shared) (H : Hp) (C : Addr) (cl : List (Str × Addr)) (fp : List Addr) (xe : Value → Shared → Prop), Takes (blkE X s H scope (compEnvC scope cl C X.env) fp xe) W1 → PE (blkE X s H scope (compEnvC scope cl C X.env) fp xe) elt te) (hs : ∀ x, foldedSetIterable iter X.env x = pure x)
    (h : tLc wi g tt te (own.map (·.2)) σ H Q)
    (hRR : ∀ D C s' m H', Inv X pins σ H' s' → Q (.ref D) H' → s'.heap.Ns C m → FpOk X pins H' C → ∃ m, s'.heap.Ns C m ∧ ∀ h', Heap.SameBut C s'.heap h' → Qf (.ref D) { s' with heap := h' }) :
    wpAny (model X.prog X.w) X.A (comprehension (.ListComp elt [⟨tg, iter, ifs, 0⟩] scope pos) scope X.env pos' (newList []) false (eval iter X.env) none) Qf X.xe s := by
  have hfree : ∀ y ∈ scope.names, y.2 = .free → ∃ c, X.env.cells.lookup y.1 = some c := fun y hy e => by
    rcases ok.free y hy e with k | k
    · exact I.ok.has _ (.inl k)
    · exact I.ok.has _ (.inr k)
  refine comprehension_at (use := none) rfl hs (closure_ok hfree) ok.kind (fun y hy e => by rw [ok.uniq y hy, e])
    (thn (hi.run pins s σ H _ I h) fun xv s1 hx => thn hx fun itv s2 h2 => ?_)
  obtain ⟨it, fp, tn, J, H2, e, I2, T, st2, f2, q⟩ := h2
  subst e
  refine wpAny_newObj_type (newEnv_comp ?_) (by show 0 ≤ sizeLine; decide)
  generalize hD : s2.heap.objs.size = D
  have hDn : H2 D = none := I2.hok.fresh (Nat.le_of_eq hD)
  obtain ⟨W, ⟨m0, w0⟩, turn⟩ := q D hDn
  -- the new list
  generalize hs3 : ({ s2 with heap := s2.heap.push { cls := .type "list", data := .seq ([] : List Value).toArray } } : Shared) = s3
  have I3 : Inv X pins σ (upd H2 D (.lst [])) s3 := by
    rw [← hs3]
    refine I2.laid (t' := s2.toks) (fun b o e => Heap.get?_push_of_some _ e) (Nat.le_of_eq hD) ⟨Nat.zero_le _, [], 0, .nil, ?_⟩
    rw [← hD]
    exact Heap.get?_push_size _ rfl
  have h3 : s3.heap = s2.heap.push { cls := .type "list", data := .seq ([] : List Value).toArray } := by rw [← hs3]
  have sz : ∀ b ∈ fp, b < s2.heap.objs.size := fun b hb => by
    obtain ⟨o, e, _⟩ := T.obj _ _ st2 b hb
    exact Heap.lt_size e
  have f3 : ∀ b ∈ fp, FpOk X pins (upd H2 D (.lst [])) b ∧ b < s3.heap.objs.size := fun b hb => by
    have hlt := sz b hb
    refine ⟨⟨?_, (f2 b hb).2⟩, by rw [h3, Heap.size_push]; exact Nat.lt_succ_of_lt hlt⟩
    rw [upd_ne (by rw [← hD]; exact Nat.ne_of_lt hlt)]
    exact (f2 b hb).1
  have st3 : tn 0 s3.heap := T.keep _ _ _ st2 fun b _ o e => by rw [h3]; exact Heap.get?_push_of_some _ e
  have I4 := block_start I3 ok hN f3
  have cF : (compEnvC scope (cellsFrom (s3.heap.objs.size + 1) scope.names (cloFrom X.env.cells scope.names [])) s3.heap.objs.size X.env).frame = X.env.frame := rfl
  have pg := hg s3 (upd H2 D (.lst [])) s3.heap.objs.size (cellsFrom (s3.heap.objs.size + 1) scope.names (cloFrom X.env.cells scope.names [])) fp
  have pt := ht s3 (upd H2 D (.lst [])) s3.heap.objs.size (cellsFrom (s3.heap.objs.size + 1) scope.names (cloFrom X.env.cells scope.names [])) fp
  have pe := he s3 (upd H2 D (.lst [])) s3.heap.objs.size (cellsFrom (s3.heap.objs.size + 1) scope.names (cloFrom X.env.cells scope.names [])) fp
  show codeAny _ _ (.compStart (.ListComp elt [⟨tg, iter, ifs, 0⟩] scope pos) 0 (.ref it) (.ref D) (compEnvC scope (cellsFrom (s3.heap.objs.size + 1) scope.names (cloFrom X.env.cells scope.names [])) s3.heap.objs.size X.env)) (compEnds (model X.prog X.w) X.A X.xe none Qf (.ref D) (compEnvC scope (cellsFrom (s3.heap.objs.size + 1) scope.names (cloFrom X.env.cells scope.names [])) s3.heap.objs.size X.env)) { s3 with heap := pushCells (s3.heap.push { cls := .type "dict", data := .dict #[] }) scope.names }
  have nfp : ∀ b ∈ fp, (upd H2 D (.lst [])) b = none := fun b hb => (f3 b hb).1.1
  generalize hce : compEnvC scope (cellsFrom (s3.heap.objs.size + 1) scope.names (cloFrom X.env.cells scope.names [])) s3.heap.objs.size X.env = ce at I4 pg pt pe cF ⊢
  have cL : ce.locals = s3.heap.objs.size := by subst hce; rfl
  generalize hH3 : upd H2 D (.lst []) = H3 at I3 I4 pg pt pe w0 nfp f3
  generalize hs4 : ({ s3 with heap := pushCells (s3.heap.push { cls := .type "dict", data := .dict #[] }) scope.names } : Shared) = s4 at I4 ⊢
  have st4 : tn 0 s4.heap := T.keep _ _ _ st3 fun b _ o e => by rw [← hs4]; exact pushCells_keeps _ _ _ _ (Heap.get?_push_of_some _ e)
  have tkE := comp_takes (use := none) (Qf := Qf) (acc := .ref D) (scope := scope) (fp := fp) I3 hst hfl cF cL f3 tk hW
  generalize hxe : (notedBy (model X.prog X.w) X.A ce fun e s'' => compEnds (model X.prog X.w) X.A X.xe none Qf (.ref D) ce (.error e) s'') = xe at tkE
  have pg := pg xe
  have pt := pt xe
  have pe := pe xe tkE
  have I4 : Inv (blkE X s3 H3 scope ce fp xe) [] (wipe σ (own.map (·.2))) H3 s4 := ⟨okXe I4.ok xe, I4.os, I4.bare, I4.base, I4.loc, I4.cell, I4.free, I4.freeC, I4.pin, I4.hok, I4.len⟩
  have stat : ∀ {σ' : L2.St} {H' : Hp} {s' : Shared}, Inv (blkE X s3 H3 scope ce fp xe) [] σ' H' s' → (∀ b ∈ fp, H' b = none) → ∀ b ∈ fp, FpOk (blkE X s3 H3 scope ce fp xe) [] H' b := fun {σ' H' s'} I' hn b hb =>
    ⟨hn b hb, (I'.ok.exf b hb).1, I'.ok.exfs b hb, .inl hb, fun x c e => (I'.ok.exf b hb).2 x c e, fun p hp => absurd (show p ∈ ([] : List (Addr × Obj)) ++ [] from hp) (by simp)⟩
  have loop : codeAny (model X.prog X.w) X.A (.compLoop (.ListComp elt [⟨tg, iter, ifs, 0⟩] scope pos) 0 (.ref it) (.ref D) ce) (compEnds (model X.prog X.w) X.A X.xe none Qf (.ref D) ce) s4 := by
    refine compLoop_any (fun n s' => ∃ i H', Inv (blkE X s3 H3 scope ce fp xe) [] (wipe σ (own.map (·.2))) H' s' ∧ tn i s'.heap ∧ (∀ b ∈ fp, H' b = none) ∧ W i n H') ?_ m0 ⟨0, H3, I4, st4, nfp, w0⟩
    rintro n s5 ⟨i, H5, I5, st5, n5, w5⟩
    rcases turn i n H5 w5 with ⟨stop, qq⟩ | ⟨go, Nx, hNx, step⟩
    · have td := T.done (blkE X s3 H3 scope ce fp xe) rfl rfl rfl hc i [] s5 _ H5 (fun _ _ => False) I5 (stat I5 n5) st5 stop
      refine thnF td fun r s6 ⟨hr, I6⟩ => ?_
      subst hr
      -- back in the def's context
      have I7 : Inv X pins σ H5 s6 := I3.call' (ch := fp) I6.os I6.base I6.hok I6.bare fun b hb => ⟨(f3 b hb).1.2.2.2.1, (f3 b hb).1.2.1, (f3 b hb).1.2.2.2.2.1, (f3 b hb).1.2.2.2.2.2⟩
      have nC : H5 s3.heap.objs.size = none := by
        have z : H5 ce.locals = none := I6.free
        rw [cL] at z
        exact z
      obtain ⟨m, hn, _⟩ := I6.loc
      have hn : s6.heap.Ns ce.locals m := hn
      rw [cL] at hn
      have z := hRR D s3.heap.objs.size s6 m H5 I7 qq hn (I3.fpOk (Nat.le_refl _) nC)
      rw [← cL] at z
      exact z
    · have ti := T.item (blkE X s3 H3 scope ce fp xe) rfl rfl rfl hc i [] s5 _ H5 (fun _ _ => False) I5 (stat I5 n5) st5 go
      refine thnF ti fun r s6 ⟨u, hr, h6⟩ => ?_
      subst hr
      refine thnF h6 fun _ s7 ⟨x, H7, I7, r7, y7, st7, n7⟩ => ?_
      have I7' := I7.pinned (stat I7 n7) (T.obj _ _ st7)
      refine thnX hxe (pg.run _ s7 _ H7 x u _ I7' r7 (step x H7 y7)) fun _ s8 ⟨σ8, H8, I8, hw8, q8⟩ => ?_
      refine thnX hxe (pt.run _ s8 σ8 H8 _ I8 q8) fun b s9 ⟨H9, I9, q9⟩ => ?_
      -- the turn's end
      have fin : ∀ {s' : Shared} {H' : Hp}, Inv (blkE X s3 H3 scope ce fp xe) ([] ++ pinsAt fp s7.heap) σ8 H' s' → Nx H' → ∃ m, m < n ∧ ∃ i H', Inv (blkE X s3 H3 scope ce fp xe) [] (wipe σ (own.map (·.2))) H' s' ∧ tn i s'.heap ∧ (∀ b ∈ fp, H' b = none) ∧ W i m H' := fun {s' H'} I' nx => by
        obtain ⟨m', hm, w'⟩ := hNx H' nx
        have pin' : ∀ b ∈ fp, ∀ o, s7.heap.get? b = some o → s'.heap.get? b = some o ∧ H' b = none := fun b hb o e =>
          let z := I'.pin (b, o) (List.mem_append_right _ (List.mem_append_right _ (mem_pinsAt hb e)))
          ⟨z.1, z.2.1⟩
        have hl : (wipe σ (own.map (·.2))).length = σ8.length := by rw [← hw8, wipe_length]
        refine ⟨m', hm, i + 1, H', (I'.unpinned (pins := [])).weak hl (fun j v e => ?_), T.keep _ _ _ st7 fun b hb o e => (pin' b hb o e).1, fun b hb => ?_, w'⟩
        · rw [← hw8] at e
          exact (wipe_some e).1
        · obtain ⟨o, e, _⟩ := T.obj _ _ st7 b hb
          exact (pin' b hb o e).2
      cases b with
      | false =>
        simp only [Bool.false_eq_true, if_false] at q9 ⊢
        exact fin I9 q9
      | true =>
        simp only [if_true] at q9 ⊢
        refine thnX hxe (pe.run _ s9 σ8 H9 _ I9 q9) fun z s10 ⟨yv, H10, I10, r10, acc, hD10, hz10, nx⟩ => ?_
        exact app_ok (X := blkE X s3 H3 scope ce fp xe) I10 hD10 hz10 r10 fun s11 I11 => fin I11 nx
  exact codeAny_compStart_list loop (T.self X.A 0 _ _ _ st4 loop)
theorem pe_lcE {elt tg iter : Expr} {ifs : List Expr} {scope : Scope} {own : List (Str × Nat)} {pos : Pos} {wi : TI} {g : TG} {tt : TT} {W0 : WX} {te : L2.St → TE} (hst : X.stack = X.env :: X.outer) (hfl : X.env.frame = some X.env.locals) (tk : Takes X W0) (hc : X.calm = true) (hN : X.N.Nodup) (hi : PI X tg iter wi) (ok : BlkOk X.N X.env.scope scope own)
    (hg : ∀ (s : Shared) (H : Hp) (C : Addr) (cl : List (Str × Addr)) (fp : List Addr) (xe : Value → Shared → Prop), PG (blkE X s H scope (compEnvC scope cl C X.env) fp xe) tg g) (ht : ∀ (s : Shared) (H : Hp) (C : Addr) (cl : List (Str × Addr)) (fp : List Addr) (xe : Value → Shared → Prop), PTs (blkE X s H scope (compEnvC scope cl C X.env) fp xe) ifs tt)
    (he : ∀ (σ : L2.St) (s : Shared) (H : Hp) (C : Addr) (cl : List (Str × Addr)) (fp : List Addr) (xe : Value → Shared → Prop), Takes (blkE X s H scope (compEnvC scope cl C X.env) fp xe) (fun c d _ H' => W0 c d σ H') → PE (blkE X s H scope (compEnvC scope cl C X.env) fp xe) elt (te σ)) (hs : ∀ x, foldedSetIterable iter X.env x = pure x := by intro _; rfl) :
    PE X (.ListComp elt [⟨tg, iter, ifs, 0⟩] scope pos) (fun σ H Q => tLc wi g tt (te σ) (own.map (·.2)) σ H Q) := by
  refine ⟨fun pins s σ H Q I h => ?_⟩
  rw [eval_ListComp]
  refine lc_coreE (W1 := fun c d _ H' => W0 c d σ H') hst hfl tk (fun _ _ _ _ w => w) hc hN I hi ok hg ht (he σ) hs h fun D C s' m H' I' q hn f => ⟨m, hn, fun h'' sb => ?_⟩
  obtain ⟨f0, f1, f2, f3, f4, f5⟩ := f
  exact ⟨.ref D, H', I'.turned (t' := s'.toks) (fun b o hb e => (sb.2 b hb).trans e) f0 f1 f3 f4 f5, rfl, q⟩
end
section
/-- a comprehension's turns; an exception of the element goes on -/
def compXR (vs : List Nat) (put : D → List T → Option (List T)) (mc : M Bool) (me : M D) : List D → M (List D)
  | [] => fun ts => .ok [] (wipeT ts vs)
  | d :: ds => fun ts => match put d (wipeT ts vs) with
    | none => .bad
    | some ts1 => match mc ts1 with
      | .ok b ts2 => if b = true then (match me ts2 with
          | .ok y ts3 => match compXR vs put mc me ds ts3 with
            | .ok l ts4 => .ok (y :: l) ts4
            | .ex c ts4 => .ex c ts4
            | .bad => .bad
          | .ex c ts3 => .ex c (wipeT ts3 vs)
          | .bad => .bad) else compXR vs put mc me ds ts2
      | _ => .bad
def compX (mi : M (List D)) (vs : List Nat) (put : D → List T → Option (List T)) (mc : M Bool) (me : M D) : M T :=
  mi >>= fun ds => if ds.length < lim then (compXR vs put mc me ds >>= fun l => if l.length ≤ lim then M.ret (.l (l.map .z)) else stop) else stop
variable {X : Cx} {W : WX} {elt tg iter : Expr} {ifs : List Expr} {scope : Scope} {own : List (Str × Nat)} {pos : Pos} {mi : M (List D)} {put : D → List T → Option (List T)} {mc : M Bool} {me : M D}
theorem comp_coreX (hput : ∀ d ts ts', put d ts = some ts' → ts'.length = ts.length) {σ : L2.St} (hσ : σ.length = X.N.length) {F Mm G H : Hp} {ts : List T} {Q : VK} {vs : List Nat} (st : Sta (gx X) F Mm G H σ ts) (k : KD (gx X) W F G σ Q (compX mi vs put mc me ts)) :
    tLc (fun _ _ Rr => KI (gx X) W F G σ Rr (mi ts)) (gD (gx X) (others X.N.length vs) put) (tB (gx X) W0 mc) (tZ (gx X) (fun c d _ H' => W c d σ H') me) vs σ H Q := by
  show KI (gx X) W F G σ _ (mi ts)
  unfold compX at k
  cases q : mi ts with
  | bad => rw [bind_bad q] at k; exact k
  | ex c ts' => rw [bind_ex q] at k; exact k
  | ok ds ts0 =>
    rw [bind_ok q] at k
    by_cases dl : ds.length < lim
    case neg => rw [if_neg dl] at k; exact k.elim
    rw [if_pos dl] at k
    intro F1 M1 H1 J s1 st1 src Da hDa
    -- what is left, behind the items so far
    let Rest : Hp → List D → R (List D) → Prop := fun F' acc r => match r with
      | .ok l ts' => (acc ++ l).length ≤ lim ∧ ∀ F'' Mv M' H' v, Same F' F'' → RO (gx X) F'' Mv v (.l ((acc ++ l).map .z)) → Sta (gx X) F'' M' (jn Mv G) H' σ ts' → Dj Mv G → Q v H'
      | .ex c ts' => ∀ F'' M' H' C, Same F' F'' → Sta (gx X) F'' M' G H' σ ts' → X.mg c = some (.ref C) → W (.ref C) none σ H'
      | .bad => False
    have rest0 : Rest F1 [] (compXR vs put mc me ds ts0) := by
      show match compXR vs put mc me ds ts0 with
        | .ok l ts' => _
        | .ex c ts' => _
        | .bad => False
      cases q2 : compXR vs put mc me ds ts0 with
      | bad => rw [bind_bad q2] at k; exact k
      | ex c ts' =>
        rw [bind_ex q2] at k
        exact fun F'' M' H' C s => k F'' M' H' C (s1.trans s)
      | ok l ts' =>
        rw [bind_ok q2] at k
        by_cases hl : l.length ≤ lim
        · rw [if_pos hl] at k
          exact ⟨hl, fun F'' Mv M' H' v s => k F'' Mv M' H' v (s1.trans s)⟩
        · rw [if_neg hl] at k; exact k.elim
    have hn1 : σ.length = ts0.length := st1.len
    obtain ⟨stD, djD⟩ := st1.newO (o := .lst []) hDa
    refine ⟨fun i m H' => ∃ F' M' ts' acc accV, Same F1 F' ∧ Dj (upd em Da (.lst accV)) G ∧ Sta (gx X) F' M' (jn (upd em Da (.lst accV)) G) H' (wipe σ vs) (wipeT ts' vs) ∧ RpAll (gx X) F' accV acc ∧ i + m = ds.length ∧ acc.length ≤ i ∧ Rest F' acc (compXR vs put mc me (ds.drop i) ts'),
      ⟨ds.length, F1, M1, ts0, [], [], Same.refl _, djD, stD.wipe vs, .nil, Nat.zero_add _, Nat.le_refl _, rest0⟩, ?_⟩
    rintro i m H' ⟨F2, M2, ts2, acc, accV, s2, dj2, st2, ra, em, al, k2⟩
    cases m with
    | zero =>
      have ei : i = ds.length := em
      refine .inl ⟨src.stop i F2 M2 _ H' _ _ s2 st2 ei, ?_⟩
      rw [List.drop_of_length_le (by omega)] at k2
      obtain ⟨hl, k3⟩ := k2
      rw [List.append_nil] at k3
      exact k3 F2 (upd Ar.em Da (.lst accV)) M2 H' (.ref Da) (Same.refl _) (.l (M' := Ar.em) upd_same Same.empty rfl (ROs.of_all ra)) st2.unwipe dj2
    | succ m =>
      have hi : i < ds.length := by omega
      have ed : ds.drop i = ds[i] :: ds.drop (i + 1) := List.drop_eq_getElem_cons hi
      rw [ed, compXR] at k2
      dsimp only at k2
      refine .inr ⟨src.go i F2 M2 _ H' _ _ s2 st2 hi, fun H3 => ∃ F' M' ts' acc accV, Same F1 F' ∧ Dj (upd Ar.em Da (.lst accV)) G ∧ Sta (gx X) F' M' (jn (upd Ar.em Da (.lst accV)) G) H3 (wipe σ vs) (wipeT ts' vs) ∧ RpAll (gx X) F' accV acc ∧ acc.length ≤ i + 1 ∧ Rest F' acc (compXR vs put mc me (ds.drop (i + 1)) ts'), ?_, ?_⟩
      · rintro H3 ⟨F3, M3, ts3, acc3, accV3, a1, a2, a3, a4, a5⟩
        exact ⟨m, Nat.lt_succ_self m, F3, M3, ts3, acc3, accV3, a1, a2, a3, a4, by omega, a5.1, a5.2⟩
      · intro x H3 y
        obtain ⟨F3, s3, rx, st3⟩ := src.yld i _ F2 M2 _ H' _ _ x H3 s2 st2 (List.getElem?_eq_getElem hi) y
        cases q2 : put ds[i] (wipeT ts2 vs) with
        | none => rw [q2] at k2; exact k2.elim
        | some ts3 =>
          rw [q2] at k2
          dsimp only at k2
          refine ⟨F3, M2, _, _, ds[i], ts3, st3, rx, q2, fun M4 σ4 st4 p4 => ?_⟩
          have l2 : ts2.length = σ.length := by
            have := st2.len
            rw [wipe_length, wipeT_length] at this
            exact this.symm
          have l4 : σ4.length = σ.length := by
            rw [st4.len, hput _ _ _ q2, wipeT_length, l2]
          have hw : wipe σ4 vs = wipe σ vs := wipe_eq l4 (by rw [hσ]; exact p4)
          refine ⟨hw, F3, M4, _, ts3, st4, ?_⟩
          cases q3 : mc ts3 with
          | bad => rw [q3] at k2; exact k2.elim
          | ex c ts5 => rw [q3] at k2; exact k2.elim
          | ok b ts5 =>
            rw [q3] at k2
            dsimp only at k2
            intro F5 M5 H5 s5 st5
            cases b with
            | false =>
              simp only [Bool.false_eq_true, if_false] at k2 ⊢
              have st6 := st5.wipe vs
              rw [hw] at st6
              refine ⟨F5, M5, ts5, acc, accV, (s2.trans s3).trans s5, dj2, st6, ra.mono (s3.trans s5), by omega, ?_⟩
              show match compXR vs put mc me (ds.drop (i + 1)) ts5 with
                | .ok l ts' => _
                | .ex c ts' => _
                | .bad => False
              revert k2
              show (match compXR vs put mc me (ds.drop (i + 1)) ts5 with
                | .ok l ts' => _
                | .ex c ts' => _
                | .bad => False) → _
              cases compXR vs put mc me (ds.drop (i + 1)) ts5 with
              | ok l ts' => exact fun ⟨h1, h2⟩ => ⟨h1, fun F'' Mv M' H' v s => h2 F'' Mv M' H' v ((s3.trans s5).trans s)⟩
              | ex c ts' => exact fun z F'' M' H' C s => z F'' M' H' C ((s3.trans s5).trans s)
              | bad => exact fun z => z
            | true =>
              simp only [if_true] at k2 ⊢
              refine ⟨F5, M5, _, ts5, st5, ?_⟩
              cases q4 : me ts5 with
              | bad => rw [q4] at k2; exact k2.elim
              | ex c ts6 =>
                rw [q4] at k2
                dsimp only at k2
                intro F6 M6 H6 C6 s6 st6 hmg
                have st7 := st6.wipe vs
                rw [hw] at st7
                exact k2 F6 M6 H6 C6 ((s3.trans s5).trans s6) (st7.drop dj2).unwipe hmg
              | ok yd ts6 =>
                rw [q4] at k2
                dsimp only at k2
                intro F6 M6 H6 yv s6 ry st6
                have hc := st6.hc
                have hD : H6 Da = some (.lst accV) := hc.gh _ _ (jn_l _ _ upd_same)
                have DM : M6 Da = none := hc.mg.ne' (jn_l _ _ upd_same)
                have DF : F6 Da = none := hc.fg.ne' (jn_l _ _ upd_same)
                have DG : G Da = none := dj2.ne upd_same
                have dj6 : Dj (upd Ar.em Da (.lst (accV ++ [yv]))) G := dj_upd_l Dj.em_l DG
                have st8 : Sta (gx X) F6 M6 (jn (upd Ar.em Da (.lst (accV ++ [yv]))) G) (upd H6 Da (.lst (accV ++ [yv]))) (wipe σ vs) (wipeT ts6 vs) := by
                    have st7 := st6.wipe vs
                    rw [hw] at st7
                    have off : ∀ {A : Hp}, A Da = none → Same A H6 → Same A (upd H6 Da (.lst (accV ++ [yv]))) := fun {A} a s b o e => by rw [upd_ne (ne_of_none e a)]; exact s _ _ e
                    refine st7.more (Same.refl _) ⟨off DF hc.fh, off DM hc.mh, jn_sub (same_upd_l Same.empty upd_same) (off DG ((jn_r dj2).trans hc.gh)), hc.fm, dj_jn_r (dj_upd_l Dj.em_l DF).symm (hc.fg.sub (Same.refl _) (jn_r dj2)), dj_jn_r (dj_upd_l Dj.em_l DM).symm (hc.mg.sub (Same.refl _) (jn_r dj2)), hc.ft.cell fun _ z => by cases z⟩
                cases q5 : compXR vs put mc me (ds.drop (i + 1)) ts6 with
                | bad => rw [q5] at k2; exact k2.elim
                | ex c ts7 =>
                  rw [q5] at k2
                  have k2 : ∀ F'' M' H' C, Same F2 F'' → Sta (gx X) F'' M' G H' σ ts7 → X.mg c = some (.ref C) → W (.ref C) none σ H' := k2
                  have h3 : acc.length < lim := by omega
                  refine ⟨accV, hD, lim_lt' (by rw [ra.length]; omega), F6, M6, ts6, acc ++ [yd], accV ++ [yv], ((s2.trans s3).trans s5).trans s6, dj6, st8, (ra.mono ((s3.trans s5).trans s6)).append (.cons ry .nil), by rw [List.length_append]; simp; omega, ?_⟩
                  rw [q5]
                  exact fun F'' M' H' C s => k2 F'' M' H' C (((s3.trans s5).trans s6).trans s)
                | ok l ts7 =>
                  rw [q5] at k2
                  obtain ⟨h1, h2⟩ := k2
                  have h3 : acc.length + (l.length + 1) ≤ lim := by simpa using h1
                  refine ⟨accV, hD, lim_lt' (by rw [ra.length]; omega), F6, M6, ts6, acc ++ [yd], accV ++ [yv], ((s2.trans s3).trans s5).trans s6, dj6, st8, (ra.mono ((s3.trans s5).trans s6)).append (.cons ry .nil), by rw [List.length_append]; simp; omega, ?_⟩
                  · rw [q5]
                    refine ⟨by simpa using h1, fun F'' Mv M' H'' v s => ?_⟩
                    rw [List.append_assoc]
                    exact h2 F'' Mv M' H'' v (((s3.trans s5).trans s6).trans s)
theorem pe_compX (hst : X.stack = X.env :: X.outer) (hfl : X.env.frame = some X.env.locals) (tk : Takes X W)
    (hc : X.calm = true) (hN : X.N.Nodup) (hi : PI X tg iter (tI (gx X) W mi)) (ok : BlkOk X.N X.env.scope scope own)
    (hg : ∀ (s : Shared) (H : Hp) (C : Addr) (cl : List (Str × Addr)) (fp : List Addr) (xe : Value → Shared → Prop), PG (blkE X s H scope (compEnvC scope cl C X.env) fp xe) tg (gD (gx X) (others X.N.length (own.map (·.2))) put))
    (ht : ∀ (s : Shared) (H : Hp) (C : Addr) (cl : List (Str × Addr)) (fp : List Addr) (xe : Value → Shared → Prop), PTs (blkE X s H scope (compEnvC scope cl C X.env) fp xe) ifs (tB (gx X) W0 mc))
    (he : ∀ (W' : WX) (s : Shared) (H : Hp) (C : Addr) (cl : List (Str × Addr)) (fp : List Addr) (xe : Value → Shared → Prop), Takes (blkE X s H scope (compEnvC scope cl C X.env) fp xe) W' → PE (blkE X s H scope (compEnvC scope cl C X.env) fp xe) elt (tZ (gx X) W' me)) (hs : ∀ x, foldedSetIterable iter X.env x = pure x)
    (hput : ∀ d ts ts', put d ts = some ts' → ts'.length = ts.length) : PE X (.ListComp elt [⟨tg, iter, ifs, 0⟩] scope pos) (tD (gx X) W (compX mi (own.map (·.2)) put mc me)) :=
  ⟨fun pins s σ H Q I h => (pe_lcE (te := fun σ => tZ (gx X) (fun c d _ H' => W c d σ H') me) hst hfl tk hc hN hi ok hg ht (fun σ s H C cl fp xe t => he _ s H C cl fp xe t) hs).run pins s σ H Q I (by
    obtain ⟨F, Mm, G, ts, st, k⟩ := h
    exact ⟨F, Mm, G, ts, st, comp_coreX hput I.len st k⟩)⟩
/-! running -/
theorem compXR_ok {vs : List Nat} {put : D → List T → Option (List T)} {mc : M Bool} {me : M D} : ∀ (ds : List D) (ts : List T) (l : List D) (ts' : List T), compR vs put mc me ds ts = .ok l ts' → compXR vs put mc me ds ts = .ok l ts'
  | [], ts, l, ts', h => h
  | d :: ds, ts, l, ts', h => by
    rw [compR] at h
    rw [compXR]
    dsimp only at h ⊢
    cases q1 : put d (wipeT ts vs) with
    | none => rw [q1] at h; cases h
    | some ts1 =>
      rw [q1] at h
      dsimp only at h ⊢
      cases q2 : mc ts1 with
      | bad => rw [q2] at h; cases h
      | ex c ts2 => rw [q2] at h; cases h
      | ok b ts2 =>
        rw [q2] at h
        dsimp only at h ⊢
        cases b with
        | false => simp only [Bool.false_eq_true, if_false] at h ⊢; exact compXR_ok ds ts2 l ts' h
        | true =>
          simp only [if_true] at h ⊢
          cases q3 : me ts2 with
          | bad => rw [q3] at h; cases h
          | ex c ts3 => rw [q3] at h; cases h
          | ok y ts3 =>
            rw [q3] at h
            dsimp only at h ⊢
            cases q4 : compR vs put mc me ds ts3 with
            | bad => rw [q4] at h; cases h
            | ex c ts4 => rw [q4] at h; cases h
            | ok l2 ts4 =>
              rw [q4] at h
              rw [compXR_ok ds ts3 l2 ts4 q4]
              exact h
/-- the first items are done, then one raises -/
theorem compXR_ex {vs : List Nat} {put : D → List T → Option (List T)} {me : M D} {ts : List T} {α : Type} {c : Str} (i : α → D) (bad : α → Prop) [DecidablePred bad] (e : wipeT ts vs = ts) :
    ∀ (l : List α), (∀ x ∈ l, ∃ ts1, put (i x) ts = some ts1 ∧ (bad x → ∃ ts2, me ts1 = .ex c ts2 ∧ wipeT ts2 vs = ts) ∧ (¬ bad x → ∃ y ts2, me ts1 = .ok y ts2 ∧ wipeT ts2 vs = ts)) →
    ∀ (ts0 : List T), wipeT ts0 vs = ts → (∃ x ∈ l, bad x) → compXR vs put (M.ret true) me (l.map i) ts0 = .ex c ts
  | [], _, ts0, _, ⟨x, hx, _⟩ => nomatch hx
  | x :: l, hp, ts0, e0, h => by
    rw [List.map_cons, compXR]
    dsimp only
    rw [e0]
    obtain ⟨ts1, p1, p2, p3⟩ := hp x List.mem_cons_self
    rw [p1]
    dsimp only
    show (if true = true then _ else _) = _
    rw [if_pos rfl]
    by_cases hb : bad x
    · obtain ⟨ts2, m1, m2⟩ := p2 hb
      rw [m1]
      dsimp only
      rw [m2]
    · obtain ⟨y, ts2, m1, m2⟩ := p3 hb
      rw [m1]
      dsimp only
      rw [compXR_ex i bad e l (fun z hz => hp z (List.mem_cons_of_mem _ hz)) ts2 m2 (by
        obtain ⟨z, hz, bz⟩ := h
        rcases List.mem_cons.mp hz with rfl | hz
        · exact absurd bz hb
        · exact ⟨z, hz, bz⟩)]
@[simp] theorem compX_ap (mi : M (List D)) (vs put mc me ts) : compX mi vs put mc me ts = (mi ts).and fun ds ts1 => if ds.length < lim then ((compXR vs put mc me ds ts1).and fun l ts2 => if l.length ≤ lim then .ok (.l (l.map .z)) ts2 else .bad) else .bad := by
  unfold compX
  rw [bind_ap]
  congr 1
  funext ds ts1
  by_cases h : ds.length < lim
  · rw [if_pos h, if_pos h, bind_ap]
    congr 1
    funext l ts2
    by_cases h2 : l.length ≤ lim
    · rw [if_pos h2, if_pos h2]; rfl
    · rw [if_neg h2, if_neg h2]; rfl
  · rw [if_neg h, if_neg h]; rfl
end
end Ar
namespace Ar
open PySem PySem.Spec PyProof.Rows L2
def topS (i : Nat) : Stmt := PySem.Challenge.pw_argosy_k10_facts_read_or_refused.main.body.getD i (.Pass ⟨0, 0, 0, 0⟩)
def cat_BadText : Str → Option Bool := fun e => List.lookup e ([("BadText", true)] : List (Str × Bool))
def is_BadFact : Str → Option Bool := fun e => List.lookup e ([("BadText", false)] : List (Str × Bool))
def is_BadNumber : Str → Option Bool := fun e => List.lookup e ([("BadText", false)] : List (Str × Bool))
def is_ArgosyError : Str → Option Bool := fun e => List.lookup e ([("BadText", true)] : List (Str × Bool))
def tab_PLAIN : List (Str × D) := [("fell", .int 1), ("lend", .int 2), ("pay", .int 2), ("clear", .int 1)]
structure Tx (K : PySem.W.Frag) (mg : Str → Option Value) (w : World) : Prop where
  d_law_begin : DefIs K mg "_law_begin" (topS 15) ["_law_script"]
  d_law_take : DefIs K mg "_law_take" (topS 16) ["_law_draw", "_law_many"]
  d_law_bent_text : DefIs K mg "_law_bent_text" (topS 30) ["_law_draw", "_law_text"]
  d_law_any_number : DefIs K mg "_law_any_number" (topS 31) ["_law_draw", "_law_great"]
  d_law_loose_fact : DefIs K mg "_law_loose_fact" (topS 29) ["_law_draw", "_law_great"]
  d_law_number : DefIs K mg "_law_number" (topS 24) ["_law_word"]
  d_law_numbers : DefIs K mg "_law_numbers" (topS 25) ["_law_words"]
  d_law_read_refit : DefIs K mg "_law_read_refit" (topS 27) ["_law_words"]
  d_law_read : DefIs K mg "_law_read" (topS 28) ["_law_words"]
  d_law_same : DefIs K mg "_law_same" (topS 17) ["_law_found", "_law_due"]
  d_law_slip : DefIs K mg "_law_slip" (topS 20) ["_law_draw"]
  d_law_some : DefIs K mg "_law_some" (topS 19) ["_law_draw", "_law_pool", "_law_many"]
  d_law_any_timbers : DefIs K mg "_law_any_timbers" (topS 21) ["_law_draw", "_law_many"]
  d_law_set : DefIs K mg "_law_set" (topS 18) ["_law_timbers"]
  d_law_sound_refit : DefIs K mg "_law_sound_refit" (topS 22) ["_law_draw", "_law_slip_here"]
  d_law_sound_fact : DefIs K mg "_law_sound_fact" (topS 23) ["_law_draw", "_law_slip_here"]
  d_number : DefIs K mg "number" (topS 8) ["text"]
  d_numbers_of : DefIs K mg "numbers_of" (topS 9) ["words"]
  d_pieces_of : DefIs K mg "pieces_of" (topS 10) ["words"]
  d_read_refit : DefIs K mg "read_refit" (topS 11) ["words"]
  d_read_words : DefIs K mg "read_words" (topS 12) ["words"]
  d_read_fact : DefIs K mg "read_fact" (topS 13) ["text"]
  d_law_told : DefIs K mg "_law_told" (topS 32) ["_law_text"]
  d_law_written : DefIs K mg "_law_written" (topS 26) ["_law_fact"]
  d_law : DefIs K mg "law" (topS 33) ["_law_script"]
  z_list : mg "list" = none
  z_len : mg "len" = none
  z_abs : mg "abs" = none
  z_tuple : mg "tuple" = none
  z_range : mg "range" = none
  z_any : mg "any" = none
  z_isinstance : mg "isinstance" = none
  z_int : mg "int" = none
  z_str : mg "str" = none
  z_bool : mg "bool" = none
  z_zip : mg "zip" = none
  z_all : mg "all" = none
  z_min : mg "min" = none
  z_set : mg "set" = none
  z_sorted : mg "sorted" = none
  e_BadText : ExcF K mg "BadText"
  t_BadText : CatT K mg "BadText" cat_BadText
  i_BadFact : IsT K mg "BadFact" is_BadFact
  i_BadNumber : IsT K mg "BadNumber" is_BadNumber
  i_ArgosyError : IsT K mg "ArgosyError" is_ArgosyError
  k_PLAIN : KTab K w mg "PLAIN" tab_PLAIN
  g_FIGURES : ∃ t, mg "FIGURES" = some (.str "0123456789" t)
noncomputable section
variable {P : Program} {w : World} {K : PySem.W.Frag} {mg : Str → Option Value} {base : Heap}
abbrev s_law_begin : Stmt := topS 15
theorem sc_law_begin : FnScope ["_law_script"] ["_law_script"] (defScope s_law_begin) := ⟨rfl, rfl, rfl, by decide +kernel, rfl, by decide +kernel, by decide +kernel⟩
def b_law_begin : S := (sq (retS (lstM (argEx (un1 oList (zT (slM (zT (rdz 0)) none (some (zT (kT (.int 63))))))) (argEx (kT (.int 0)) (argEx (kT (.int 0)) (argEx (kT (.int 17)) (M.ret []))))))) RS.nx)
def m_law_begin : List T → R T := bodyR 0 [true] b_law_begin
theorem ok_law_begin (T : Tx K mg w) (n : Nat) : Callee P w K mg base (n + 1) "_law_begin" ["_law_script"] m_law_begin := callee_of (m := b_law_begin) (ex := 0) (kp := [true]) (by decide) T.d_law_begin sc_law_begin rfl fun f cdv A outer s H E hr => (pss_consS (ps_retS (pe_lstM (pa_arEx (c_list rfl T.z_list rfl (pe_zv (e_zT (pe_slM (e_zT (pe_rdz (i := 0) rfl (.inl rfl) rfl rfl)) po_noneM (po_someM (e_zT (e_kT pe_int fun _ => .int _)))))) rfl) (pa_arEx (e_kT pe_int fun _ => .int _) (pa_arEx (e_kT pe_int fun _ => .int _) (pa_arEx (e_kT pe_int fun _ => .int _) pa_arNil rfl) rfl) rfl) rfl))) pss_nilS)
abbrev s_law_take : Stmt := topS 16
theorem sc_law_take : FnScope ["_law_draw", "_law_many", "_law_cell", "_law_got"] ["_law_draw", "_law_many"] (defScope s_law_take) := ⟨rfl, rfl, rfl, by decide +kernel, rfl, by decide +kernel, by decide +kernel⟩
def b_law_take : S := (sq (ifS (lendB (andB (tsB (binA oLt (zT (binA oIx (see (seeN 0)) (kA (.int 2)))) (seeN 1))) (tsB (binZ oLt (zT (binA oIx (see (seeN 0)) (kA (.int 1)))) (zT (un1 oLen (zT (binA oIx (see (seeN 0)) (kA (.int 0)))))))))) (sq (setS 2 (fzM (lendM (binZ oIx (zT (binA oIx (see (seeN 0)) (kA (.int 0)))) (zT (binA oIx (see (seeN 0)) (kA (.int 1)))))))) (sq (stM 0 (zT (kT (.int 1))) (lendM (binA oAdd (zT (binA oIx (see (seeN 0)) (kA (.int 1)))) (kA (.int 1))))) (sq (stM 0 (zT (kT (.int 2))) (kT (.int 0))) (sq (ifS (tsB (binZ oGe (zT (un1 oAbs (see (seeN 2)))) (zT (binA oPow (see (kA (.int 10))) (kA (.int 18)))))) (sq (stM 0 (zT (kT (.int 2))) (un1 oAbs (see (seeN 2)))) RS.nx) (sq (stM 0 (zT (kT (.int 3))) (lendM (binA oMod (zT (binA oAdd (zT (binZ oAdd (zT (binA oMul (zT (binA oIx (see (seeN 0)) (kA (.int 3)))) (kA (.int 48271)))) (zT (binA oMul (zT (binA oMod (see (seeN 2)) (kA (.int 2147483629)))) (kA (.int 69621)))))) (kA (.int 12345)))) (kA (.int 2147483647))))) RS.nx)) RS.nx)))) RS.nx) (sq (ifS (lendB (tsB (binA oGe (zT (binA oIx (see (seeN 0)) (kA (.int 2)))) (seeN 1)))) (sq (setS 3 (lendM (binA oMod (zT (binA oIx (see (seeN 0)) (kA (.int 2)))) (seeN 1)))) (sq (stM 0 (zT (kT (.int 2))) (lendM (binA oDiv (zT (binA oIx (see (seeN 0)) (kA (.int 2)))) (seeN 1)))) (sq (retS (rdz 3)) RS.nx))) RS.nx) (sq (stM 0 (zT (kT (.int 3))) (lendM (binA oMod (zT (binA oAdd (zT (binA oMul (zT (binA oIx (see (seeN 0)) (kA (.int 3)))) (kA (.int 16807)))) (kA (.int 2531011)))) (kA (.int 2147483647))))) (sq (retS (lendM (binA oMod (zT (binA oDiv (zT (binA oIx (see (seeN 0)) (kA (.int 3)))) (kA (.int 64)))) (seeN 1)))) RS.nx))))
def m_law_take : List T → R T := bodyR 2 [true, true] b_law_take
theorem ok_law_take (T : Tx K mg w) (n : Nat) : Callee P w K mg base (n + 1) "_law_take" ["_law_draw", "_law_many"] m_law_take := callee_of (m := b_law_take) (ex := 2) (kp := [true, true]) (by decide) T.d_law_take sc_law_take rfl fun f cdv A outer s H E hr => (pss_consS (ps_ifS (pt_lend (PW.pt (pw_andB (t_cmpA (op_ltAll (hu64 hr)) opLt (pe_zv (e_zT (e_ixA (hu1 hr) (pe_atv (pe_seeN (i := 0) rfl (.inl rfl) rfl rfl)) (e_kA pe_int fun _ => .int _) (fun _ _ => rfl)))) (pe_seeN (i := 1) rfl (.inl rfl) rfl rfl) (nomark _)) (w_and1 (t_cmpZ (op_ltAll (hu64 hr)) opLt (e_zT (e_ixA (hu1 hr) (pe_atv (pe_seeN (i := 0) rfl (.inl rfl) rfl rfl)) (e_kA pe_int fun _ => .int _) (fun _ _ => rfl))) (pe_zv (e_zT (c_len T.z_len rfl (pe_zv (e_zT (e_ixA (hu1 hr) (pe_atv (pe_seeN (i := 0) rfl (.inl rfl) rfl rfl)) (e_kA pe_int fun _ => .int _) (fun _ _ => rfl)))) rfl))) (nomark _)))))) (pss_consS (ps_setS (i := 2) (e_fzM (pe_lend (e_ixZ (hu1 hr) (e_zT (e_ixA (hu1 hr) (pe_atv (pe_seeN (i := 0) rfl (.inl rfl) rfl rfl)) (e_kA pe_int fun _ => .int _) (fun _ _ => rfl))) (pe_zv (e_zT (e_ixA (hu1 hr) (pe_atv (pe_seeN (i := 0) rfl (.inl rfl) rfl rfl)) (e_kA pe_int fun _ => .int _) (fun _ _ => rfl)))) (fun _ _ => rfl)))) sc_law_take.nd rfl (.inl rfl) rfl (.inl rfl) (show 2 ∉ keptOf 0 [true, true] by decide)) (pss_consS (ps_stM (i := 0) (hu1 hr) rfl (.inl rfl) rfl rfl (pe_lend (e_binA op_addAll opAdd (pe_zv (e_zT (e_ixA (hu1 hr) (pe_atv (pe_seeN (i := 0) rfl (.inl rfl) rfl rfl)) (e_kA pe_int fun _ => .int _) (fun _ _ => rfl)))) (e_kA pe_int fun _ => .int _))) (e_zT (e_kT pe_int fun _ => .int _)) rfl rfl (fun _ => rfl)) (pss_consS (ps_stM (i := 0) (hu1 hr) rfl (.inl rfl) rfl rfl (e_kT pe_int fun _ => .int _) (e_zT (e_kT pe_int fun _ => .int _)) rfl rfl (fun _ => rfl)) (pss_consS (ps_ifS (t_cmpZ op_ge opGe (e_zT (c_abs T.z_abs rfl (pe_atv (pe_seeN (i := 2) rfl (.inl rfl) rfl rfl)) rfl)) (pe_zv (e_zT (e_binA op_pow opPow (pe_atv (e_kA pe_int fun _ => .int _)) (e_kA pe_int fun _ => .int _)))) (nomark _)) (pss_consS (ps_stM (i := 0) (hu1 hr) rfl (.inl rfl) rfl rfl (c_abs T.z_abs rfl (pe_atv (pe_seeN (i := 2) rfl (.inl rfl) rfl rfl)) rfl) (e_zT (e_kT pe_int fun _ => .int _)) rfl rfl (fun _ => rfl)) pss_nilS) (pss_consS (ps_stM (i := 0) (hu1 hr) rfl (.inl rfl) rfl rfl (pe_lend (e_binA op_mod opMod (pe_zv (e_zT (e_binA op_addAll opAdd (pe_zv (e_zT (e_binZ op_addAll opAdd (e_zT (e_binA op_mulAll opMul (pe_zv (e_zT (e_ixA (hu1 hr) (pe_atv (pe_seeN (i := 0) rfl (.inl rfl) rfl rfl)) (e_kA pe_int fun _ => .int _) (fun _ _ => rfl)))) (e_kA pe_int fun _ => .int _))) (pe_zv (e_zT (e_binA op_mulAll opMul (pe_zv (e_zT (e_binA op_mod opMod (pe_atv (pe_seeN (i := 2) rfl (.inl rfl) rfl rfl)) (e_kA pe_int fun _ => .int _)))) (e_kA pe_int fun _ => .int _))))))) (e_kA pe_int fun _ => .int _)))) (e_kA pe_int fun _ => .int _))) (e_zT (e_kT pe_int fun _ => .int _)) rfl rfl (fun _ => rfl)) pss_nilS)) pss_nilS)))) pss_nilS) (pss_consS (ps_ifS (pt_lend (t_cmpA op_ge opGe (pe_zv (e_zT (e_ixA (hu1 hr) (pe_atv (pe_seeN (i := 0) rfl (.inl rfl) rfl rfl)) (e_kA pe_int fun _ => .int _) (fun _ _ => rfl)))) (pe_seeN (i := 1) rfl (.inl rfl) rfl rfl) (nomark _))) (pss_consS (ps_setS (i := 3) (pe_lend (e_binA op_mod opMod (pe_zv (e_zT (e_ixA (hu1 hr) (pe_atv (pe_seeN (i := 0) rfl (.inl rfl) rfl rfl)) (e_kA pe_int fun _ => .int _) (fun _ _ => rfl)))) (pe_seeN (i := 1) rfl (.inl rfl) rfl rfl))) sc_law_take.nd rfl (.inl rfl) rfl (.inl rfl) (show 3 ∉ keptOf 0 [true, true] by decide)) (pss_consS (ps_stM (i := 0) (hu1 hr) rfl (.inl rfl) rfl rfl (pe_lend (e_binA op_fdivW opDiv (pe_zv (e_zT (e_ixA (hu1 hr) (pe_atv (pe_seeN (i := 0) rfl (.inl rfl) rfl rfl)) (e_kA pe_int fun _ => .int _) (fun _ _ => rfl)))) (pe_seeN (i := 1) rfl (.inl rfl) rfl rfl))) (e_zT (e_kT pe_int fun _ => .int _)) rfl rfl (fun _ => rfl)) (pss_consS (ps_retS (pe_rdz (i := 3) rfl (.inl rfl) rfl rfl)) pss_nilS))) pss_nilS) (pss_consS (ps_stM (i := 0) (hu1 hr) rfl (.inl rfl) rfl rfl (pe_lend (e_binA op_mod opMod (pe_zv (e_zT (e_binA op_addAll opAdd (pe_zv (e_zT (e_binA op_mulAll opMul (pe_zv (e_zT (e_ixA (hu1 hr) (pe_atv (pe_seeN (i := 0) rfl (.inl rfl) rfl rfl)) (e_kA pe_int fun _ => .int _) (fun _ _ => rfl)))) (e_kA pe_int fun _ => .int _)))) (e_kA pe_int fun _ => .int _)))) (e_kA pe_int fun _ => .int _))) (e_zT (e_kT pe_int fun _ => .int _)) rfl rfl (fun _ => rfl)) (pss_consS (ps_retS (pe_lend (e_binA op_mod opMod (pe_zv (e_zT (e_binA op_fdivW opDiv (pe_zv (e_zT (e_ixA (hu1 hr) (pe_atv (pe_seeN (i := 0) rfl (.inl rfl) rfl rfl)) (e_kA pe_int fun _ => .int _) (fun _ _ => rfl)))) (e_kA pe_int fun _ => .int _)))) (pe_seeN (i := 1) rfl (.inl rfl) rfl rfl)))) pss_nilS))))
abbrev s_law_bent_text : Stmt := topS 30
theorem sc_law_bent_text : FnScope ["_law_draw", "_law_text", "_law_at", "_law_alphabet", "_law_sign", "_law_way"] ["_law_draw", "_law_text"] (defScope s_law_bent_text) := ⟨rfl, rfl, rfl, by decide +kernel, rfl, by decide +kernel, by decide +kernel⟩
def b_law_bent_text : S := (sq (setS 2 (callM m_law_take [some 0, none] (argTk 0 (argEx (fzM (binA oAdd (zT (un1 oLen (see (seeN 1)))) (kA (.int 1)))) (M.ret []))))) (sq (setS 3 (kT (.str " /0123456789,-+.~acdefilmnoprst\nA"))) (sq (setS 4 (fzM (binZ oIx (zT (rdz 3)) (zT (callM m_law_take [some 0, none] (argTk 0 (argEx (fzM (un1 oLen (see (seeN 3)))) (M.ret [])))))))) (sq (setS 5 (callM m_law_take [some 0, none] (argTk 0 (argEx (kT (.int 7)) (M.ret []))))) (sq (ifS (tsB (binA oEq (see (seeN 5)) (kA (.int 0)))) (sq (retS (binZ oAdd (zT (binA oAdd (zT (slM (zT (rdz 1)) none (some (zT (rdz 2))))) (seeN 4))) (zT (slM (zT (rdz 1)) (some (zT (rdz 2))) none)))) RS.nx) RS.nx) (sq (ifS (tsB (binA oEq (see (seeN 5)) (kA (.int 1)))) (sq (retS (binZ oAdd (zT (slM (zT (rdz 1)) none (some (zT (rdz 2))))) (zT (slM (zT (rdz 1)) (some (zT (binA oAdd (see (seeN 2)) (kA (.int 1))))) none)))) RS.nx) RS.nx) (sq (ifS (tsB (binA oEq (see (seeN 5)) (kA (.int 2)))) (sq (retS (binZ oAdd (zT (binA oAdd (zT (slM (zT (rdz 1)) none (some (zT (rdz 2))))) (seeN 4))) (zT (slM (zT (rdz 1)) (some (zT (binA oAdd (see (seeN 2)) (kA (.int 1))))) none)))) RS.nx) RS.nx) (sq (ifS (tsB (binA oEq (see (seeN 5)) (kA (.int 3)))) (sq (retS (slM (zT (rdz 1)) none (some (zT (rdz 2))))) RS.nx) RS.nx) (sq (ifS (tsB (binA oEq (see (seeN 5)) (kA (.int 4)))) (sq (retS (slM (zT (rdz 1)) (some (zT (rdz 2))) none)) RS.nx) RS.nx) (sq (ifS (tsB (binA oEq (see (seeN 5)) (kA (.int 5)))) (sq (retS (binZ oAdd (zT (binA oAdd (zT (slM (zT (rdz 1)) none (some (zT (rdz 2))))) (kA (.str " / ")))) (zT (slM (zT (rdz 1)) (some (zT (rdz 2))) none)))) RS.nx) RS.nx) (sq (retS (binZ oAdd (zT (rdz 1)) (zT (binZ oIx (zT (lstM (argEx (kT (.str " ")) (argEx (kT (.str "\n")) (argEx (kT (.str " 0")) (argEx (kT (.str "0")) (argEx (kT (.str " /")) (M.ret [])))))))) (zT (callM m_law_take [some 0, none] (argTk 0 (argEx (kT (.int 5)) (M.ret []))))))))) RS.nx)))))))))))
def m_law_bent_text : List T → R T := bodyR 4 [true, true] b_law_bent_text
theorem ok_law_bent_text (T : Tx K mg w) (n : Nat) : Callee P w K mg base (n + 2) "_law_bent_text" ["_law_draw", "_law_text"] m_law_bent_text := callee_of (m := b_law_bent_text) (ex := 4) (kp := [true, true]) (by decide) T.d_law_bent_text sc_law_bent_text rfl fun f cdv A outer s H E hr => (pss_consS (ps_setS (i := 2) (c_own (tks := [some 0, none]) ((ok_law_take T 0).mono (show 0 + 1 ≤ n + 1 by omega)) hr rfl takes_cx (pa_arTk (i := 0) rfl (.inl rfl) rfl rfl (pa_arEx (e_fzM (e_binA op_addAll opAdd (pe_zv (e_zT (c_len T.z_len rfl (pe_atv (pe_seeN (i := 1) rfl (.inl rfl) rfl rfl)) rfl))) (e_kA pe_int fun _ => .int _))) pa_arNil rfl)) rfl rfl rfl) sc_law_bent_text.nd rfl (.inl rfl) rfl (.inl rfl) (show 2 ∉ keptOf 0 [true, true] by decide)) (pss_consS (ps_setS (i := 3) (e_kT pe_str fun _ => .str _) sc_law_bent_text.nd rfl (.inl rfl) rfl (.inl rfl) (show 3 ∉ keptOf 0 [true, true] by decide)) (pss_consS (ps_setS (i := 4) (e_fzM (e_ixZ (hu1 hr) (e_zT (pe_rdz (i := 3) rfl (.inl rfl) rfl rfl)) (pe_zv (e_zT (c_own (tks := [some 0, none]) ((ok_law_take T 0).mono (show 0 + 1 ≤ n + 1 by omega)) hr rfl takes_cx (pa_arTk (i := 0) rfl (.inl rfl) rfl rfl (pa_arEx (e_fzM (c_len T.z_len rfl (pe_atv (pe_seeN (i := 3) rfl (.inl rfl) rfl rfl)) rfl)) pa_arNil rfl)) rfl rfl rfl))) (fun _ _ => rfl))) sc_law_bent_text.nd rfl (.inl rfl) rfl (.inl rfl) (show 4 ∉ keptOf 0 [true, true] by decide)) (pss_consS (ps_setS (i := 5) (c_own (tks := [some 0, none]) ((ok_law_take T 0).mono (show 0 + 1 ≤ n + 1 by omega)) hr rfl takes_cx (pa_arTk (i := 0) rfl (.inl rfl) rfl rfl (pa_arEx (e_kT pe_int fun _ => .int _) pa_arNil rfl)) rfl rfl rfl) sc_law_bent_text.nd rfl (.inl rfl) rfl (.inl rfl) (show 5 ∉ keptOf 0 [true, true] by decide)) (pss_consS (ps_ifS (t_cmpA (op_eqD (hu64 hr)) opEq (pe_atv (pe_seeN (i := 5) rfl (.inl rfl) rfl rfl)) (e_kA pe_int fun _ => .int _) (nomark _)) (pss_consS (ps_retS (e_binZ op_addAll opAdd (e_zT (e_binA op_addAll opAdd (pe_zv (e_zT (pe_slM (e_zT (pe_rdz (i := 1) rfl (.inl rfl) rfl rfl)) po_noneM (po_someM (e_zT (pe_rdz (i := 2) rfl (.inl rfl) rfl rfl)))))) (pe_seeN (i := 4) rfl (.inl rfl) rfl rfl))) (pe_zv (e_zT (pe_slM (e_zT (pe_rdz (i := 1) rfl (.inl rfl) rfl rfl)) (po_someM (e_zT (pe_rdz (i := 2) rfl (.inl rfl) rfl rfl))) po_noneM))))) pss_nilS) pss_nilS) (pss_consS (ps_ifS (t_cmpA (op_eqD (hu64 hr)) opEq (pe_atv (pe_seeN (i := 5) rfl (.inl rfl) rfl rfl)) (e_kA pe_int fun _ => .int _) (nomark _)) (pss_consS (ps_retS (e_binZ op_addAll opAdd (e_zT (pe_slM (e_zT (pe_rdz (i := 1) rfl (.inl rfl) rfl rfl)) po_noneM (po_someM (e_zT (pe_rdz (i := 2) rfl (.inl rfl) rfl rfl))))) (pe_zv (e_zT (pe_slM (e_zT (pe_rdz (i := 1) rfl (.inl rfl) rfl rfl)) (po_someM (e_zT (e_binA op_addAll opAdd (pe_atv (pe_seeN (i := 2) rfl (.inl rfl) rfl rfl)) (e_kA pe_int fun _ => .int _)))) po_noneM))))) pss_nilS) pss_nilS) (pss_consS (ps_ifS (t_cmpA (op_eqD (hu64 hr)) opEq (pe_atv (pe_seeN (i := 5) rfl (.inl rfl) rfl rfl)) (e_kA pe_int fun _ => .int _) (nomark _)) (pss_consS (ps_retS (e_binZ op_addAll opAdd (e_zT (e_binA op_addAll opAdd (pe_zv (e_zT (pe_slM (e_zT (pe_rdz (i := 1) rfl (.inl rfl) rfl rfl)) po_noneM (po_someM (e_zT (pe_rdz (i := 2) rfl (.inl rfl) rfl rfl)))))) (pe_seeN (i := 4) rfl (.inl rfl) rfl rfl))) (pe_zv (e_zT (pe_slM (e_zT (pe_rdz (i := 1) rfl (.inl rfl) rfl rfl)) (po_someM (e_zT (e_binA op_addAll opAdd (pe_atv (pe_seeN (i := 2) rfl (.inl rfl) rfl rfl)) (e_kA pe_int fun _ => .int _)))) po_noneM))))) pss_nilS) pss_nilS) (pss_consS (ps_ifS (t_cmpA (op_eqD (hu64 hr)) opEq (pe_atv (pe_seeN (i := 5) rfl (.inl rfl) rfl rfl)) (e_kA pe_int fun _ => .int _) (nomark _)) (pss_consS (ps_retS (pe_slM (e_zT (pe_rdz (i := 1) rfl (.inl rfl) rfl rfl)) po_noneM (po_someM (e_zT (pe_rdz (i := 2) rfl (.inl rfl) rfl rfl))))) pss_nilS) pss_nilS) (pss_consS (ps_ifS (t_cmpA (op_eqD (hu64 hr)) opEq (pe_atv (pe_seeN (i := 5) rfl (.inl rfl) rfl rfl)) (e_kA pe_int fun _ => .int _) (nomark _)) (pss_consS (ps_retS (pe_slM (e_zT (pe_rdz (i := 1) rfl (.inl rfl) rfl rfl)) (po_someM (e_zT (pe_rdz (i := 2) rfl (.inl rfl) rfl rfl))) po_noneM)) pss_nilS) pss_nilS) (pss_consS (ps_ifS (t_cmpA (op_eqD (hu64 hr)) opEq (pe_atv (pe_seeN (i := 5) rfl (.inl rfl) rfl rfl)) (e_kA pe_int fun _ => .int _) (nomark _)) (pss_consS (ps_retS (e_binZ op_addAll opAdd (e_zT (e_binA op_addAll opAdd (pe_zv (e_zT (pe_slM (e_zT (pe_rdz (i := 1) rfl (.inl rfl) rfl rfl)) po_noneM (po_someM (e_zT (pe_rdz (i := 2) rfl (.inl rfl) rfl rfl)))))) (e_kA pe_str fun _ => .str _))) (pe_zv (e_zT (pe_slM (e_zT (pe_rdz (i := 1) rfl (.inl rfl) rfl rfl)) (po_someM (e_zT (pe_rdz (i := 2) rfl (.inl rfl) rfl rfl))) po_noneM))))) pss_nilS) pss_nilS) (pss_consS (ps_retS (e_binZ op_addAll opAdd (e_zT (pe_rdz (i := 1) rfl (.inl rfl) rfl rfl)) (pe_zv (e_zT (e_ixZ (hu1 hr) (e_zT (pe_lstM (pa_arEx (e_kT pe_str fun _ => .str _) (pa_arEx (e_kT pe_str fun _ => .str _) (pa_arEx (e_kT pe_str fun _ => .str _) (pa_arEx (e_kT pe_str fun _ => .str _) (pa_arEx (e_kT pe_str fun _ => .str _) pa_arNil rfl) rfl) rfl) rfl) rfl))) (pe_zv (e_zT (c_own (tks := [some 0, none]) ((ok_law_take T 0).mono (show 0 + 1 ≤ n + 1 by omega)) hr rfl takes_cx (pa_arTk (i := 0) rfl (.inl rfl) rfl rfl (pa_arEx (e_kT pe_int fun _ => .int _) pa_arNil rfl)) rfl rfl rfl))) (fun _ _ => rfl)))))) pss_nilS)))))))))))
abbrev s_law_any_number : Stmt := topS 31
theorem sc_law_any_number : FnScope ["_law_draw", "_law_great", "_law_many"] ["_law_draw", "_law_great"] (defScope s_law_any_number) := ⟨rfl, rfl, rfl, by decide +kernel, rfl, by decide +kernel, by decide +kernel⟩
def b_law_any_number : S := (sq (ifS (notB (tsB (rdz 1))) (sq (retS (callM m_law_take [some 0, none] (argTk 0 (argEx (fzM (binZ oIx (zT (tupM (argEx (kT (.int 10)) (argEx (kT (.int 100)) (argEx (kT (.int 1000)) (M.ret [])))))) (zT (callM m_law_take [some 0, none] (argTk 0 (argEx (kT (.int 3)) (M.ret []))))))) (M.ret []))))) RS.nx) RS.nx) (sq (setS 2 (callM m_law_take [some 0, none] (argTk 0 (argEx (fzM (binZ oIx (zT (tupM (argEx (kT (.int 2)) (argEx (kT (.int 10)) (argEx (kT (.int 1000)) (argEx (binA oPow (see (kA (.int 10))) (kA (.int 9))) (M.ret []))))))) (zT (callM m_law_take [some 0, none] (argTk 0 (argEx (kT (.int 4)) (M.ret []))))))) (M.ret []))))) (sq (ifS (tsB (binA oEq (zT (callM m_law_take [some 0, none] (argTk 0 (argEx (kT (.int 6)) (M.ret []))))) (kA (.int 0)))) (sq (retS (binZ oAdd (zT (binZ oMul (zT (rdz 2)) (zT (binA oPow (see (kA (.int 10))) (kA (.int 20)))))) (zT (callM m_law_take [some 0, none] (argTk 0 (argEx (fzM (binA oPow (see (kA (.int 10))) (kA (.int 9)))) (M.ret []))))))) RS.nx) RS.nx) (sq (retS (rdz 2)) RS.nx))))
def m_law_any_number : List T → R T := bodyR 1 [true, true] b_law_any_number
theorem ok_law_any_number (T : Tx K mg w) (n : Nat) : Callee P w K mg base (n + 2) "_law_any_number" ["_law_draw", "_law_great"] m_law_any_number := callee_of (m := b_law_any_number) (ex := 1) (kp := [true, true]) (by decide) T.d_law_any_number sc_law_any_number rfl fun f cdv A outer s H E hr => (pss_consS (ps_ifS (t_not (t_plain (pe_rdz (i := 1) rfl (.inl rfl) rfl rfl) rfl)) (pss_consS (ps_retS (c_own (tks := [some 0, none]) ((ok_law_take T 0).mono (show 0 + 1 ≤ n + 1 by omega)) hr rfl takes_cx (pa_arTk (i := 0) rfl (.inl rfl) rfl rfl (pa_arEx (e_fzM (e_ixZ (hu1 hr) (e_zT (pe_tupM (pa_arEx (e_kT pe_int fun _ => .int _) (pa_arEx (e_kT pe_int fun _ => .int _) (pa_arEx (e_kT pe_int fun _ => .int _) pa_arNil rfl) rfl) rfl))) (pe_zv (e_zT (c_own (tks := [some 0, none]) ((ok_law_take T 0).mono (show 0 + 1 ≤ n + 1 by omega)) hr rfl takes_cx (pa_arTk (i := 0) rfl (.inl rfl) rfl rfl (pa_arEx (e_kT pe_int fun _ => .int _) pa_arNil rfl)) rfl rfl rfl))) (fun _ _ => rfl))) pa_arNil rfl)) rfl rfl rfl)) pss_nilS) pss_nilS) (pss_consS (ps_setS (i := 2) (c_own (tks := [some 0, none]) ((ok_law_take T 0).mono (show 0 + 1 ≤ n + 1 by omega)) hr rfl takes_cx (pa_arTk (i := 0) rfl (.inl rfl) rfl rfl (pa_arEx (e_fzM (e_ixZ (hu1 hr) (e_zT (pe_tupM (pa_arEx (e_kT pe_int fun _ => .int _) (pa_arEx (e_kT pe_int fun _ => .int _) (pa_arEx (e_kT pe_int fun _ => .int _) (pa_arEx (e_binA op_pow opPow (pe_atv (e_kA pe_int fun _ => .int _)) (e_kA pe_int fun _ => .int _)) pa_arNil rfl) rfl) rfl) rfl))) (pe_zv (e_zT (c_own (tks := [some 0, none]) ((ok_law_take T 0).mono (show 0 + 1 ≤ n + 1 by omega)) hr rfl takes_cx (pa_arTk (i := 0) rfl (.inl rfl) rfl rfl (pa_arEx (e_kT pe_int fun _ => .int _) pa_arNil rfl)) rfl rfl rfl))) (fun _ _ => rfl))) pa_arNil rfl)) rfl rfl rfl) sc_law_any_number.nd rfl (.inl rfl) rfl (.inl rfl) (show 2 ∉ keptOf 0 [true, true] by decide)) (pss_consS (ps_ifS (t_cmpA (op_eqD (hu64 hr)) opEq (pe_zv (e_zT (c_own (tks := [some 0, none]) ((ok_law_take T 0).mono (show 0 + 1 ≤ n + 1 by omega)) hr rfl takes_cx (pa_arTk (i := 0) rfl (.inl rfl) rfl rfl (pa_arEx (e_kT pe_int fun _ => .int _) pa_arNil rfl)) rfl rfl rfl))) (e_kA pe_int fun _ => .int _) (nomark _)) (pss_consS (ps_retS (e_binZ op_addAll opAdd (e_zT (e_binZ op_mulAll opMul (e_zT (pe_rdz (i := 2) rfl (.inl rfl) rfl rfl)) (pe_zv (e_zT (e_binA op_pow opPow (pe_atv (e_kA pe_int fun _ => .int _)) (e_kA pe_int fun _ => .int _)))))) (pe_zv (e_zT (c_own (tks := [some 0, none]) ((ok_law_take T 0).mono (show 0 + 1 ≤ n + 1 by omega)) hr rfl takes_cx (pa_arTk (i := 0) rfl (.inl rfl) rfl rfl (pa_arEx (e_fzM (e_binA op_pow opPow (pe_atv (e_kA pe_int fun _ => .int _)) (e_kA pe_int fun _ => .int _))) pa_arNil rfl)) rfl rfl rfl))))) pss_nilS) pss_nilS) (pss_consS (ps_retS (pe_rdz (i := 2) rfl (.inl rfl) rfl rfl)) pss_nilS))))
def l0_law_loose_fact : S := (sq (exprS (appM 4 (un1 oTuple (zT (compM (itM rng1 (zT (binZ oAdd (zT (kT (.int 1))) (zT (callM m_law_take [some 0, none] (argTk 0 (argEx (kT (.int 5)) (M.ret [])))))))) [6] (Tg.n 6).put (M.ret true) (zT (callM m_law_any_number [some 0, none] (argTk 0 (argEx (rdz 1) (M.ret [])))))))))) RS.nx)
abbrev s_law_loose_fact : Stmt := topS 29
theorem sc_law_loose_fact : FnScope ["_law_draw", "_law_great", "_law_word", "_law_numbers_here", "_law_sets", "_law_k", "_law_j"] ["_law_draw", "_law_great"] (defScope s_law_loose_fact) := ⟨rfl, rfl, rfl, by decide +kernel, rfl, by decide +kernel, by decide +kernel⟩
def b_law_loose_fact : S := (sq (setS 2 (fzM (binZ oIx (zT (tupM (argEx (kT (.str "fell")) (argEx (kT (.str "refit")) (argEx (kT (.str "refit")) (argEx (kT (.str "storm")) (argEx (kT (.str "find")) (argEx (kT (.str "lend")) (argEx (kT (.str "pay")) (argEx (kT (.str "clear")) (M.ret []))))))))))) (zT (callM m_law_take [some 0, none] (argTk 0 (argEx (kT (.int 8)) (M.ret [])))))))) (sq (ifS (tsB (binZ oIn (zT (rdz 2)) (zT (tupM (argEx (kT (.str "fell")) (argEx (kT (.str "clear")) (M.ret []))))))) (sq (retS (tupM (argEx (rdz 2) (argEx (callM m_law_any_number [some 0, none] (argTk 0 (argEx (rdz 1) (M.ret [])))) (M.ret []))))) RS.nx) RS.nx) (sq (ifS (tsB (binZ oIn (zT (rdz 2)) (zT (tupM (argEx (kT (.str "lend")) (argEx (kT (.str "pay")) (M.ret []))))))) (sq (retS (tupM (argEx (rdz 2) (argEx (callM m_law_any_number [some 0, none] (argTk 0 (argEx (rdz 1) (M.ret [])))) (argEx (callM m_law_any_number [some 0, none] (argTk 0 (argEx (rdz 1) (M.ret [])))) (M.ret [])))))) RS.nx) RS.nx) (sq (setS 3 (un1 oTuple (zT (compM (itM rng1 (zT (binZ oAdd (zT (kT (.int 1))) (zT (callM m_law_take [some 0, none] (argTk 0 (argEx (kT (.int 6)) (M.ret [])))))))) [5] (Tg.n 5).put (M.ret true) (zT (callM m_law_any_number [some 0, none] (argTk 0 (argEx (rdz 1) (M.ret []))))))))) (sq (ifS (tsB (binA oNe (see (seeN 2)) (kA (.str "refit")))) (sq (retS (tupM (argEx (rdz 2) (argEx (rdz 3) (M.ret []))))) RS.nx) RS.nx) (sq (setS 4 (lstM (M.ret []))) (sq (forS (itM rng1 (zT (callM m_law_take [some 0, none] (argTk 0 (argEx (kT (.int 5)) (M.ret [])))))) (Tg.n 5).put l0_law_loose_fact) (sq (ifS (andB (lendB (tsB (binZ oNe (zT (rdz 4)) (zT (lstM (M.ret [])))))) (tsB (binA oEq (zT (callM m_law_take [some 0, none] (argTk 0 (argEx (kT (.int 3)) (M.ret []))))) (kA (.int 0))))) (sq (setS 3 (fzM (tupM (M.ret [])))) RS.nx) RS.nx) (sq (retS (lendM (tupM (argEx (rdz 2) (argEx (rdz 3) (argEx (un1 oTuple (see (seeN 4))) (M.ret []))))))) RS.nx)))))))))
def m_law_loose_fact : List T → R T := bodyR 5 [true, true] b_law_loose_fact
theorem ok_law_loose_fact (T : Tx K mg w) (n : Nat) : Callee P w K mg base (n + 3) "_law_loose_fact" ["_law_draw", "_law_great"] m_law_loose_fact := callee_of (m := b_law_loose_fact) (ex := 5) (kp := [true, true]) (by decide) T.d_law_loose_fact sc_law_loose_fact rfl fun f cdv A outer s H E hr => (pss_consS (ps_setS (i := 2) (e_fzM (e_ixZ (hu1 hr) (e_zT (pe_tupM (pa_arEx (e_kT pe_str fun _ => .str _) (pa_arEx (e_kT pe_str fun _ => .str _) (pa_arEx (e_kT pe_str fun _ => .str _) (pa_arEx (e_kT pe_str fun _ => .str _) (pa_arEx (e_kT pe_str fun _ => .str _) (pa_arEx (e_kT pe_str fun _ => .str _) (pa_arEx (e_kT pe_str fun _ => .str _) (pa_arEx (e_kT pe_str fun _ => .str _) pa_arNil rfl) rfl) rfl) rfl) rfl) rfl) rfl) rfl))) (pe_zv (e_zT (c_own (tks := [some 0, none]) ((ok_law_take T 0).mono (show 0 + 1 ≤ n + 2 by omega)) hr rfl takes_cx (pa_arTk (i := 0) rfl (.inr (.inl rfl)) rfl rfl (pa_arEx (e_kT pe_int fun _ => .int _) pa_arNil rfl)) rfl rfl rfl))) (fun _ _ => rfl))) sc_law_loose_fact.nd rfl (.inl rfl) rfl (.inl rfl) (show 2 ∉ keptOf 0 [true, true] by decide)) (pss_consS (ps_ifS (t_cmpZ (op_inAll (hu65 hr)) opIn (e_zT (pe_rdz (i := 2) rfl (.inl rfl) rfl rfl)) (pe_zv (e_zT (pe_tupM (pa_arEx (e_kT pe_str fun _ => .str _) (pa_arEx (e_kT pe_str fun _ => .str _) pa_arNil rfl) rfl)))) rfl) (pss_consS (ps_retS (pe_tupM (pa_arEx (pe_rdz (i := 2) rfl (.inl rfl) rfl rfl) (pa_arEx (c_own (tks := [some 0, none]) ((ok_law_any_number T 0).mono (show 0 + 2 ≤ n + 2 by omega)) hr rfl takes_cx (pa_arTk (i := 0) rfl (.inr (.inl rfl)) rfl rfl (pa_arEx (pe_rdz (i := 1) rfl (.inr (.inl rfl)) rfl rfl) pa_arNil rfl)) rfl rfl rfl) pa_arNil rfl) rfl))) pss_nilS) pss_nilS) (pss_consS (ps_ifS (t_cmpZ (op_inAll (hu65 hr)) opIn (e_zT (pe_rdz (i := 2) rfl (.inl rfl) rfl rfl)) (pe_zv (e_zT (pe_tupM (pa_arEx (e_kT pe_str fun _ => .str _) (pa_arEx (e_kT pe_str fun _ => .str _) pa_arNil rfl) rfl)))) rfl) (pss_consS (ps_retS (pe_tupM (pa_arEx (pe_rdz (i := 2) rfl (.inl rfl) rfl rfl) (pa_arEx (c_own (tks := [some 0, none]) ((ok_law_any_number T 0).mono (show 0 + 2 ≤ n + 2 by omega)) hr rfl takes_cx (pa_arTk (i := 0) rfl (.inr (.inl rfl)) rfl rfl (pa_arEx (pe_rdz (i := 1) rfl (.inr (.inl rfl)) rfl rfl) pa_arNil rfl)) rfl rfl rfl) (pa_arEx (c_own (tks := [some 0, none]) ((ok_law_any_number T 0).mono (show 0 + 2 ≤ n + 2 by omega)) hr rfl takes_cx (pa_arTk (i := 0) rfl (.inr (.inl rfl)) rfl rfl (pa_arEx (pe_rdz (i := 1) rfl (.inr (.inl rfl)) rfl rfl) pa_arNil rfl)) rfl rfl rfl) pa_arNil rfl) rfl) rfl))) pss_nilS) pss_nilS) (pss_consS (ps_setS (i := 3) (c_tuple T.z_tuple rfl (pe_zv (e_zT (pe_compM (own := [("_law_k", 5)]) (put := (Tg.n 5).put) rfl sc_law_loose_fact.nd (i_rng1 T.z_range rfl (pe_zv (e_zT (e_binZ op_addAll opAdd (e_zT (e_kT pe_int fun _ => .int _)) (pe_zv (e_zT (c_own (tks := [some 0, none]) ((ok_law_take T 0).mono (show 0 + 1 ≤ n + 2 by omega)) hr rfl takes_cx (pa_arTk (i := 0) rfl (.inr (.inl rfl)) rfl rfl (pa_arEx (e_kT pe_int fun _ => .int _) pa_arNil rfl)) rfl rfl rfl)))))) rfl) (blkOk_by (N := ["_law_draw", "_law_great", "_law_word", "_law_numbers_here", "_law_sets", "_law_k", "_law_j"]) (sc := defScope s_law_loose_fact) (by decide +kernel)) (fun _ _ _ _ _ => (pg_n (i := 5) sc_law_loose_fact.nd rfl (.inl rfl) (.inr rfl) (show 5 ∉ others 7 [5] by decide))) (fun _ _ _ _ _ => pts_nilB) (fun _ _ _ _ _ => (e_zT (c_own (tks := [some 0, none]) ((ok_law_any_number T 0).mono (show 0 + 2 ≤ n + 2 by omega)) hr rfl takes0 (pa_arTk (i := 0) rfl (.inr (.inl rfl)) rfl rfl (pa_arEx (pe_rdz (i := 1) rfl (.inr (.inl rfl)) rfl rfl) pa_arNil rfl)) rfl rfl rfl))) (fun _ => rfl) (put_length _)))) rfl) sc_law_loose_fact.nd rfl (.inl rfl) rfl (.inl rfl) (show 3 ∉ keptOf 0 [true, true] by decide)) (pss_consS (ps_ifS (t_cmpA (op_neD (hu64 hr)) opNe (pe_atv (pe_seeN (i := 2) rfl (.inl rfl) rfl rfl)) (e_kA pe_str fun _ => .str _) (nomark _)) (pss_consS (ps_retS (pe_tupM (pa_arEx (pe_rdz (i := 2) rfl (.inl rfl) rfl rfl) (pa_arEx (pe_rdz (i := 3) rfl (.inl rfl) rfl rfl) pa_arNil rfl) rfl))) pss_nilS) pss_nilS) (pss_consS (ps_setS (i := 4) (pe_lstM pa_arNil) sc_law_loose_fact.nd rfl (.inl rfl) rfl (.inl rfl) (show 4 ∉ keptOf 0 [true, true] by decide)) (pss_consS (ps_forS passes_cx rfl (i_rng1 T.z_range rfl (pe_zv (e_zT (c_own (tks := [some 0, none]) ((ok_law_take T 0).mono (show 0 + 1 ≤ n + 2 by omega)) hr rfl takes_cx (pa_arTk (i := 0) rfl (.inr (.inl rfl)) rfl rfl (pa_arEx (e_kT pe_int fun _ => .int _) pa_arNil rfl)) rfl rfl rfl))) rfl) (pg_n (i := 5) sc_law_loose_fact.nd rfl (.inl rfl) (.inl rfl) (show 5 ∉ keptOf 0 [true, true] by decide)) (pss_consS (ps_exprS (pe_appM (i := 4) rfl (.inl rfl) rfl rfl (c_tuple T.z_tuple rfl (pe_zv (e_zT (pe_compM (own := [("_law_j", 6)]) (put := (Tg.n 6).put) rfl sc_law_loose_fact.nd (i_rng1 T.z_range rfl (pe_zv (e_zT (e_binZ op_addAll opAdd (e_zT (e_kT pe_int fun _ => .int _)) (pe_zv (e_zT (c_own (tks := [some 0, none]) ((ok_law_take T 0).mono (show 0 + 1 ≤ n + 2 by omega)) hr rfl takes_cx (pa_arTk (i := 0) rfl (.inr (.inl rfl)) rfl rfl (pa_arEx (e_kT pe_int fun _ => .int _) pa_arNil rfl)) rfl rfl rfl)))))) rfl) (blkOk_by (N := ["_law_draw", "_law_great", "_law_word", "_law_numbers_here", "_law_sets", "_law_k", "_law_j"]) (sc := defScope s_law_loose_fact) (by decide +kernel)) (fun _ _ _ _ _ => (pg_n (i := 6) sc_law_loose_fact.nd rfl (.inl rfl) (.inr rfl) (show 6 ∉ others 7 [6] by decide))) (fun _ _ _ _ _ => pts_nilB) (fun _ _ _ _ _ => (e_zT (c_own (tks := [some 0, none]) ((ok_law_any_number T 0).mono (show 0 + 2 ≤ n + 2 by omega)) hr rfl takes0 (pa_arTk (i := 0) rfl (.inr (.inl rfl)) rfl rfl (pa_arEx (pe_rdz (i := 1) rfl (.inr (.inl rfl)) rfl rfl) pa_arNil rfl)) rfl rfl rfl))) (fun _ => rfl) (put_length _)))) rfl) rfl rfl) rfl) pss_nilS) (fun _ => rfl)) (pss_consS (ps_ifS (PW.pt (pw_andB (pt_lend (t_cmpZ (op_neD (hu64 hr)) opNe (e_zT (pe_rdz (i := 4) rfl (.inl rfl) rfl rfl)) (pe_zv (e_zT (pe_lstM pa_arNil))) (nomark _))) (w_and1 (t_cmpA (op_eqD (hu64 hr)) opEq (pe_zv (e_zT (c_own (tks := [some 0, none]) ((ok_law_take T 0).mono (show 0 + 1 ≤ n + 2 by omega)) hr rfl takes_cx (pa_arTk (i := 0) rfl (.inr (.inl rfl)) rfl rfl (pa_arEx (e_kT pe_int fun _ => .int _) pa_arNil rfl)) rfl rfl rfl))) (e_kA pe_int fun _ => .int _) (nomark _))))) (pss_consS (ps_setS (i := 3) (e_fzM (pe_tupM pa_arNil)) sc_law_loose_fact.nd rfl (.inl rfl) rfl (.inl rfl) (show 3 ∉ keptOf 0 [true, true] by decide)) pss_nilS) pss_nilS) (pss_consS (ps_retS (pe_lend (pe_tupM (pa_arEx (pe_rdz (i := 2) rfl (.inl rfl) rfl rfl) (pa_arEx (pe_rdz (i := 3) rfl (.inl rfl) rfl rfl) (pa_arEx (c_tuple T.z_tuple rfl (pe_atv (pe_seeN (i := 4) rfl (.inl rfl) rfl rfl)) rfl) pa_arNil rfl) rfl) rfl)))) pss_nilS)))))))))
abbrev s_law_number : Stmt := topS 24
theorem sc_law_number : FnScope ["_law_word", "_law_many", "_law_sign", "_law_at"] ["_law_word"] (defScope s_law_number) := ⟨rfl, rfl, rfl, by decide +kernel, rfl, by decide +kernel, by decide +kernel⟩
def b_law_number : S := (sq (ifS (orB (tsB (binA oEq (see (seeN 0)) (kA (.str "")))) (andB (tsB (binA oGt (zT (un1 oLen (see (seeN 0)))) (kA (.int 1)))) (tsB (binA oEq (zT (binA oIx (see (seeN 0)) (kA (.int 0)))) (kA (.str "0")))))) (sq (retS (kT .non)) RS.nx) RS.nx) (sq (setS 1 (kT (.int 0))) (sq (forS (itM signsOf (zT (rdz 0))) (Tg.n 2).put (sq (setS 3 (fzM (binZ oFind (recvS (zT (kT (.str "0123456789")))) (see (seeN 2))))) (sq (ifS (tsB (binA oLt (see (seeN 3)) (kA (.int 0)))) (sq (retS (kT .non)) RS.nx) RS.nx) (sq (setS 1 (fzM (binA oAdd (zT (binA oMul (see (seeN 1)) (kA (.int 10)))) (seeN 3)))) RS.nx)))) (sq (retS (rdz 1)) RS.nx))))
def m_law_number : List T → R T := bodyR 3 [true] b_law_number
theorem ok_law_number (T : Tx K mg w) (n : Nat) : Callee P w K mg base (n + 1) "_law_number" ["_law_word"] m_law_number := callee_of (m := b_law_number) (ex := 3) (kp := [true]) (by decide) T.d_law_number sc_law_number rfl fun f cdv A outer s H E hr => (pss_consS (ps_ifS (PW.pt (pw_orB (t_cmpA (op_eqD (hu64 hr)) opEq (pe_atv (pe_seeN (i := 0) rfl (.inl rfl) rfl rfl)) (e_kA pe_str fun _ => .str _) (nomark _)) (w_or1 (PW.pt (pw_andB (t_cmpA op_gt opGt (pe_zv (e_zT (c_len T.z_len rfl (pe_atv (pe_seeN (i := 0) rfl (.inl rfl) rfl rfl)) rfl))) (e_kA pe_int fun _ => .int _) (nomark _)) (w_and1 (t_cmpA (op_eqD (hu64 hr)) opEq (pe_zv (e_zT (e_ixA (hu1 hr) (pe_atv (pe_seeN (i := 0) rfl (.inl rfl) rfl rfl)) (e_kA pe_int fun _ => .int _) (fun _ _ => rfl)))) (e_kA pe_str fun _ => .str _) (nomark _)))))))) (pss_consS (ps_retS (e_kT pe_non fun _ => .non)) pss_nilS) pss_nilS) (pss_consS (ps_setS (i := 1) (e_kT pe_int fun _ => .int _) sc_law_number.nd rfl (.inl rfl) rfl (.inl rfl) (show 1 ∉ keptOf 0 [true] by decide)) (pss_consS (ps_forS passes_cx rfl (i_str (e_zT (pe_rdz (i := 0) rfl (.inl rfl) rfl rfl))) (pg_n (i := 2) sc_law_number.nd rfl (.inl rfl) (.inl rfl) (show 2 ∉ keptOf 0 [true] by decide)) (pss_consS (ps_setS (i := 3) (e_fzM (c_find (e_zT (e_kT pe_str fun _ => .str _)) (pe_atv (pe_seeN (i := 2) rfl (.inl rfl) rfl rfl)) rfl rfl rfl)) sc_law_number.nd rfl (.inl rfl) rfl (.inl rfl) (show 3 ∉ keptOf 0 [true] by decide)) (pss_consS (ps_ifS (t_cmpA (op_ltAll (hu64 hr)) opLt (pe_atv (pe_seeN (i := 3) rfl (.inl rfl) rfl rfl)) (e_kA pe_int fun _ => .int _) (nomark _)) (pss_consS (ps_retS (e_kT pe_non fun _ => .non)) pss_nilS) pss_nilS) (pss_consS (ps_setS (i := 1) (e_fzM (e_binA op_addAll opAdd (pe_zv (e_zT (e_binA op_mulAll opMul (pe_atv (pe_seeN (i := 1) rfl (.inl rfl) rfl rfl)) (e_kA pe_int fun _ => .int _)))) (pe_seeN (i := 3) rfl (.inl rfl) rfl rfl))) sc_law_number.nd rfl (.inl rfl) rfl (.inl rfl) (show 1 ∉ keptOf 0 [true] by decide)) pss_nilS))) (fun _ => rfl)) (pss_consS (ps_retS (pe_rdz (i := 1) rfl (.inl rfl) rfl rfl)) pss_nilS))))
abbrev s_law_numbers : Stmt := topS 25
theorem sc_law_numbers : FnScope ["_law_words", "_law_found", "_law_word", "_law_one"] ["_law_words"] (defScope s_law_numbers) := ⟨rfl, rfl, rfl, by decide +kernel, rfl, by decide +kernel, by decide +kernel⟩
def b_law_numbers : S := (sq (setS 1 (compM (itM itemsOf (zT (rdz 0))) [2] (Tg.n 2).put (M.ret true) (zT (callM m_law_number [none] (argEx (rdz 2) (M.ret [])))))) (sq (ifS (tsB (un1 oAny (zT (compM (itM itemsOf (zT (rdz 1))) [3] (Tg.n 3).put (M.ret true) (zT (isN (see (seeN 3)))))))) (sq (retS (kT .non)) RS.nx) RS.nx) (sq (retS (un1 oTuple (see (seeN 1)))) RS.nx)))
def m_law_numbers : List T → R T := bodyR 3 [true] b_law_numbers
theorem ok_law_numbers (T : Tx K mg w) (n : Nat) : Callee P w K mg base (n + 2) "_law_numbers" ["_law_words"] m_law_numbers := callee_of (m := b_law_numbers) (ex := 3) (kp := [true]) (by decide) T.d_law_numbers sc_law_numbers rfl fun f cdv A outer s H E hr => (pss_consS (ps_setCompM (i := 1) (own := [("_law_word", 2)]) (put := (Tg.n 2).put) rfl sc_law_numbers.nd rfl rfl (sw_true rfl rfl rfl (by decide +kernel)) (i_seq (e_zT (pe_rdz (i := 0) rfl (.inl rfl) rfl rfl))) (blkOk_by (N := ["_law_words", "_law_found", "_law_word", "_law_one"]) (sc := defScope s_law_numbers) (by decide +kernel)) (fun _ _ _ _ _ => (pg_n (i := 2) sc_law_numbers.nd rfl (.inl rfl) (.inr rfl) (show 2 ∉ others 4 [2] by decide))) (fun _ _ _ _ _ => pts_nilB) (fun _ _ _ _ _ => (e_zT (c_own (tks := [none]) ((ok_law_number T 0).mono (show 0 + 1 ≤ n + 1 by omega)) hr rfl takes0 (pa_arEx (pe_rdz (i := 2) rfl (.inl rfl) rfl rfl) pa_arNil rfl) rfl rfl rfl))) (fun _ => rfl) (put_length _) (show 1 ∉ keptOf 0 [true] by decide)) (pss_consS (ps_ifS (t_plain (c_any rfl T.z_any rfl (pe_zv (e_zT (pe_compM (own := [("_law_one", 3)]) (put := (Tg.n 3).put) rfl sc_law_numbers.nd (i_seq (e_zT (pe_rdz (i := 1) rfl (.inl rfl) rfl rfl))) (blkOk_by (N := ["_law_words", "_law_found", "_law_word", "_law_one"]) (sc := defScope s_law_numbers) (by decide +kernel)) (fun _ _ _ _ _ => (pg_n (i := 3) sc_law_numbers.nd rfl (.inl rfl) (.inr rfl) (show 3 ∉ others 4 [3] by decide))) (fun _ _ _ _ _ => pts_nilB) (fun _ _ _ _ _ => (e_zT (e_isN (pe_atv (pe_seeN (i := 3) rfl (.inl rfl) rfl rfl))))) (fun _ => rfl) (put_length _)))) rfl) rfl) (pss_consS (ps_retS (e_kT pe_non fun _ => .non)) pss_nilS) pss_nilS) (pss_consS (ps_retS (c_tuple T.z_tuple rfl (pe_atv (pe_seeN (i := 1) rfl (.inl rfl) rfl rfl)) rfl)) pss_nilS)))
def l0_law_read_refit : S := (sq (ifS (tsB (binA oEq (see (seeN 2)) (kA (.str "/")))) (sq (exprS (appM 1 (lstM (M.ret [])))) RS.nx) (sq (exprS (napM 1 (zT (un1 oNeg (see (kA (.int 1))))) (seeN 2))) RS.nx)) RS.nx)
abbrev s_law_read_refit : Stmt := topS 27
theorem sc_law_read_refit : FnScope ["_law_words", "_law_rows", "_law_word", "_law_found", "_law_row", "_law_one"] ["_law_words"] (defScope s_law_read_refit) := ⟨rfl, rfl, rfl, by decide +kernel, rfl, by decide +kernel, by decide +kernel⟩
def b_law_read_refit : S := (sq (setS 1 (lstM (argEx (lstM (M.ret [])) (M.ret [])))) (sq (forS (itM itemsOf (zT (rdz 0))) (Tg.n 2).put l0_law_read_refit) (sq (setS 3 (lendM (compM (itM itemsOf (zT (rdz 1))) [4] (Tg.n 4).put (M.ret true) (zT (callM m_law_numbers [none] (argEx (rdz 4) (M.ret []))))))) (sq (ifS (lendB (orB (tsB (binZ oEq (zT (rdz 0)) (zT (lstM (M.ret []))))) (orB (tsB (un1 oAny (zT (compM (itM itemsOf (zT (slM (zT (rdz 1)) (some (zT (kT (.int 1)))) none))) [4] (Tg.n 4).put (M.ret true) (zT (binZ oEq (zT (rdz 4)) (zT (lstM (M.ret []))))))))) (tsB (un1 oAny (zT (compM (itM itemsOf (zT (rdz 3))) [5] (Tg.n 5).put (M.ret true) (zT (isN (see (seeN 5))))))))))) (sq (retS (kT .non)) RS.nx) RS.nx) (sq (retS (tupM (argEx (kT (.str "refit")) (argEx (binA oIx (see (seeN 3)) (kA (.int 0))) (argEx (un1 oTuple (zT (slM (zT (rdz 3)) (some (zT (kT (.int 1)))) none))) (M.ret [])))))) RS.nx)))))
def m_law_read_refit : List T → R T := bodyR 5 [true] b_law_read_refit
theorem ok_law_read_refit (T : Tx K mg w) (n : Nat) : Callee P w K mg base (n + 3) "_law_read_refit" ["_law_words"] m_law_read_refit := callee_of (m := b_law_read_refit) (ex := 5) (kp := [true]) (by decide) T.d_law_read_refit sc_law_read_refit rfl fun f cdv A outer s H E hr => (pss_consS (ps_setS (i := 1) (pe_lstM (pa_arEx (pe_lstM pa_arNil) pa_arNil rfl)) sc_law_read_refit.nd rfl (.inl rfl) rfl (.inl rfl) (show 1 ∉ keptOf 0 [true] by decide)) (pss_consS (ps_forS passes_cx rfl (i_seq (e_zT (pe_rdz (i := 0) rfl (.inl rfl) rfl rfl))) (pg_n (i := 2) sc_law_read_refit.nd rfl (.inl rfl) (.inl rfl) (show 2 ∉ keptOf 0 [true] by decide)) (pss_consS (ps_ifS (t_cmpA (op_eqD (hu64 hr)) opEq (pe_atv (pe_seeN (i := 2) rfl (.inl rfl) rfl rfl)) (e_kA pe_str fun _ => .str _) (nomark _)) (pss_consS (ps_exprS (pe_appM (i := 1) rfl (.inl rfl) rfl rfl (pe_lstM pa_arNil) rfl rfl) rfl) pss_nilS) (pss_consS (ps_exprS (pe_napM (i := 1) (hu1 hr) rfl (.inl rfl) rfl rfl (e_zT (e_un un_neg opNeg (pe_atv (e_kA pe_int fun _ => .int _)))) (fun _ _ => rfl) (pe_seeN (i := 2) rfl (.inl rfl) rfl rfl) rfl rfl rfl) rfl) pss_nilS)) pss_nilS) (fun _ => rfl)) (pss_consS (ps_setLendCompM (i := 3) (own := [("_law_row", 4)]) (put := (Tg.n 4).put) rfl sc_law_read_refit.nd rfl rfl (sw_true rfl rfl rfl (by decide +kernel)) (i_seq (e_zT (pe_rdz (i := 1) rfl (.inl rfl) rfl rfl))) (blkOk_by (N := ["_law_words", "_law_rows", "_law_word", "_law_found", "_law_row", "_law_one"]) (sc := defScope s_law_read_refit) (by decide +kernel)) (fun _ _ _ _ _ => (pg_n (i := 4) sc_law_read_refit.nd rfl (.inl rfl) (.inr rfl) (show 4 ∉ others 6 [4] by decide))) (fun _ _ _ _ _ => pts_nilB) (fun _ _ _ _ _ => (e_zT (c_own (tks := [none]) ((ok_law_numbers T 0).mono (show 0 + 2 ≤ n + 2 by omega)) hr rfl takes0 (pa_arEx (pe_rdz (i := 4) rfl (.inl rfl) rfl rfl) pa_arNil rfl) rfl rfl rfl))) (fun _ => rfl) (put_length _) (show 3 ∉ keptOf 0 [true] by decide)) (pss_consS (ps_ifS (pt_lend (PW.pt (pw_orB (t_cmpZ (op_eqD (hu64 hr)) opEq (e_zT (pe_rdz (i := 0) rfl (.inl rfl) rfl rfl)) (pe_zv (e_zT (pe_lstM pa_arNil))) (nomark _)) (pw_orB (t_plain (c_any rfl T.z_any rfl (pe_zv (e_zT (pe_compM (own := [("_law_row", 4)]) (put := (Tg.n 4).put) rfl sc_law_read_refit.nd (i_seq (e_zT (pe_slM (e_zT (pe_rdz (i := 1) rfl (.inl rfl) rfl rfl)) (po_someM (e_zT (e_kT pe_int fun _ => .int _))) po_noneM))) (blkOk_by (N := ["_law_words", "_law_rows", "_law_word", "_law_found", "_law_row", "_law_one"]) (sc := defScope s_law_read_refit) (by decide +kernel)) (fun _ _ _ _ _ => (pg_n (i := 4) sc_law_read_refit.nd rfl (.inl rfl) (.inr rfl) (show 4 ∉ others 6 [4] by decide))) (fun _ _ _ _ _ => pts_nilB) (fun _ _ _ _ _ => (e_zT (e_cmpZ (op_eqD (hu64 hr)) opEq (e_zT (pe_rdz (i := 4) rfl (.inl rfl) rfl rfl)) (pe_zv (e_zT (pe_lstM pa_arNil))) (nomark _)))) (fun _ => rfl) (put_length _)))) rfl) rfl) (w_or1 (t_plain (c_any rfl T.z_any rfl (pe_zv (e_zT (pe_compM (own := [("_law_one", 5)]) (put := (Tg.n 5).put) rfl sc_law_read_refit.nd (i_seq (e_zT (pe_rdz (i := 3) rfl (.inl rfl) rfl rfl))) (blkOk_by (N := ["_law_words", "_law_rows", "_law_word", "_law_found", "_law_row", "_law_one"]) (sc := defScope s_law_read_refit) (by decide +kernel)) (fun _ _ _ _ _ => (pg_n (i := 5) sc_law_read_refit.nd rfl (.inl rfl) (.inr rfl) (show 5 ∉ others 6 [5] by decide))) (fun _ _ _ _ _ => pts_nilB) (fun _ _ _ _ _ => (e_zT (e_isN (pe_atv (pe_seeN (i := 5) rfl (.inl rfl) rfl rfl))))) (fun _ => rfl) (put_length _)))) rfl) rfl)))))) (pss_consS (ps_retS (e_kT pe_non fun _ => .non)) pss_nilS) pss_nilS) (pss_consS (ps_retS (pe_tupM (pa_arEx (e_kT pe_str fun _ => .str _) (pa_arEx (e_ixA (hu1 hr) (pe_atv (pe_seeN (i := 3) rfl (.inl rfl) rfl rfl)) (e_kA pe_int fun _ => .int _) (fun _ _ => rfl)) (pa_arEx (c_tuple T.z_tuple rfl (pe_zv (e_zT (pe_slM (e_zT (pe_rdz (i := 3) rfl (.inl rfl) rfl rfl)) (po_someM (e_zT (e_kT pe_int fun _ => .int _))) po_noneM))) rfl) pa_arNil rfl) rfl) rfl))) pss_nilS)))))
abbrev s_law_read : Stmt := topS 28
theorem sc_law_read : FnScope ["_law_words", "_law_many", "_law_found"] ["_law_words"] (defScope s_law_read) := ⟨rfl, rfl, rfl, by decide +kernel, rfl, by decide +kernel, by decide +kernel⟩
def b_law_read : S := (sq (ifS (tsB (binA oEq (zT (binA oIx (see (seeN 0)) (kA (.int 0)))) (kA (.str "refit")))) (sq (retS (callM m_law_read_refit [none] (argEx (fzM (slM (zT (rdz 0)) (some (zT (kT (.int 1)))) none)) (M.ret [])))) RS.nx) RS.nx) (sq (setS 1 (fzM (dspM [("fell", 1), ("lend", 2), ("pay", 2), ("clear", 1)]))) (sq (setS 2 (fzM (callM m_law_numbers [none] (argEx (fzM (slM (zT (rdz 0)) (some (zT (kT (.int 1)))) none)) (M.ret []))))) (sq (ifS (isNB (see (seeN 2))) (sq (retS (kT .non)) RS.nx) RS.nx) (sq (ifS (tsB (binZ oIn (zT (binA oIx (see (seeN 0)) (kA (.int 0)))) (zT (tupM (argEx (kT (.str "storm")) (argEx (kT (.str "find")) (M.ret []))))))) (sq (retS (ifV (tsB (binZ oEq (zT (rdz 2)) (zT (tupM (M.ret []))))) (kT .non) (tupM (argEx (binA oIx (see (seeN 0)) (kA (.int 0))) (argEx (rdz 2) (M.ret [])))))) RS.nx) RS.nx) (sq (ifS (orB (tsB (binZ oNe (zT (get2 (zT (rdz 1)) (zT (binA oIx (see (seeN 0)) (kA (.int 0)))) (zT (kT (.int 0))))) (zT (un1 oLen (see (seeN 2)))))) (tsB (binA oNotIn (zT (binA oIx (see (seeN 0)) (kA (.int 0)))) (seeN 1)))) (sq (retS (kT .non)) RS.nx) RS.nx) (sq (retS (binA oAdd (zT (tupM (argEx (binA oIx (see (seeN 0)) (kA (.int 0))) (M.ret [])))) (seeN 2))) RS.nx)))))))
def m_law_read : List T → R T := bodyR 2 [true] b_law_read
theorem ok_law_read (T : Tx K mg w) (n : Nat) : Callee P w K mg base (n + 4) "_law_read" ["_law_words"] m_law_read := callee_of (m := b_law_read) (ex := 2) (kp := [true]) (by decide) T.d_law_read sc_law_read rfl fun f cdv A outer s H E hr => (pss_consS (ps_ifS (t_cmpA (op_eqD (hu64 hr)) opEq (pe_zv (e_zT (e_ixA (hu1 hr) (pe_atv (pe_seeN (i := 0) rfl (.inl rfl) rfl rfl)) (e_kA pe_int fun _ => .int _) (fun _ _ => rfl)))) (e_kA pe_str fun _ => .str _) (nomark _)) (pss_consS (ps_retS (c_own (tks := [none]) ((ok_law_read_refit T 0).mono (show 0 + 3 ≤ n + 3 by omega)) hr rfl takes_cx (pa_arEx (e_fzM (pe_slM (e_zT (pe_rdz (i := 0) rfl (.inl rfl) rfl rfl)) (po_someM (e_zT (e_kT pe_int fun _ => .int _))) po_noneM)) pa_arNil rfl) rfl rfl rfl)) pss_nilS) pss_nilS) (pss_consS (ps_setS (i := 1) (e_fzM (pe_dspM (kvs := [("fell", 1), ("lend", 2), ("pay", 2), ("clear", 1)]) (pd_cons pe_str pe_int (pd_cons pe_str pe_int (pd_cons pe_str pe_int (pd_cons pe_str pe_int pd_nil)))) rfl rfl (fun z => nomatch z) (by decide) (by decide) (by decide +kernel))) sc_law_read.nd rfl (.inl rfl) rfl (.inl rfl) (show 1 ∉ keptOf 0 [true] by decide)) (pss_consS (ps_setS (i := 2) (e_fzM (c_own (tks := [none]) ((ok_law_numbers T 0).mono (show 0 + 2 ≤ n + 3 by omega)) hr rfl takes_cx (pa_arEx (e_fzM (pe_slM (e_zT (pe_rdz (i := 0) rfl (.inl rfl) rfl rfl)) (po_someM (e_zT (e_kT pe_int fun _ => .int _))) po_noneM)) pa_arNil rfl) rfl rfl rfl)) sc_law_read.nd rfl (.inl rfl) rfl (.inl rfl) (show 2 ∉ keptOf 0 [true] by decide)) (pss_consS (ps_ifS (t_isN (pe_atv (pe_seeN (i := 2) rfl (.inl rfl) rfl rfl))) (pss_consS (ps_retS (e_kT pe_non fun _ => .non)) pss_nilS) pss_nilS) (pss_consS (ps_ifS (t_cmpZ (op_inAll (hu65 hr)) opIn (e_zT (e_ixA (hu1 hr) (pe_atv (pe_seeN (i := 0) rfl (.inl rfl) rfl rfl)) (e_kA pe_int fun _ => .int _) (fun _ _ => rfl))) (pe_zv (e_zT (pe_tupM (pa_arEx (e_kT pe_str fun _ => .str _) (pa_arEx (e_kT pe_str fun _ => .str _) pa_arNil rfl) rfl)))) rfl) (pss_consS (ps_retS (pe_ifV (t_cmpZ (op_eqD (hu64 hr)) opEq (e_zT (pe_rdz (i := 2) rfl (.inl rfl) rfl rfl)) (pe_zv (e_zT (pe_tupM pa_arNil))) (nomark _)) (e_kT pe_non fun _ => .non) (pe_tupM (pa_arEx (e_ixA (hu1 hr) (pe_atv (pe_seeN (i := 0) rfl (.inl rfl) rfl rfl)) (e_kA pe_int fun _ => .int _) (fun _ _ => rfl)) (pa_arEx (pe_rdz (i := 2) rfl (.inl rfl) rfl rfl) pa_arNil rfl) rfl)))) pss_nilS) pss_nilS) (pss_consS (ps_ifS (PW.pt (pw_orB (t_cmpZ (op_neD (hu64 hr)) opNe (e_zT (c_get2 (hu1 hr) (e_zT (pe_rdz (i := 1) rfl (.inl rfl) rfl rfl)) (e_zT (e_ixA (hu1 hr) (pe_atv (pe_seeN (i := 0) rfl (.inl rfl) rfl rfl)) (e_kA pe_int fun _ => .int _) (fun _ _ => rfl))) (e_zT (e_kT pe_int fun _ => .int _)) rfl rfl rfl rfl)) (pe_zv (e_zT (c_len T.z_len rfl (pe_atv (pe_seeN (i := 2) rfl (.inl rfl) rfl rfl)) rfl))) (nomark _)) (w_or1 (t_cmpA (op_notInAll (hu65 hr)) opNotIn (pe_zv (e_zT (e_ixA (hu1 hr) (pe_atv (pe_seeN (i := 0) rfl (.inl rfl) rfl rfl)) (e_kA pe_int fun _ => .int _) (fun _ _ => rfl)))) (pe_seeN (i := 1) rfl (.inl rfl) rfl rfl) rfl)))) (pss_consS (ps_retS (e_kT pe_non fun _ => .non)) pss_nilS) pss_nilS) (pss_consS (ps_retS (e_binA op_addAll opAdd (pe_zv (e_zT (pe_tupM (pa_arEx (e_ixA (hu1 hr) (pe_atv (pe_seeN (i := 0) rfl (.inl rfl) rfl rfl)) (e_kA pe_int fun _ => .int _) (fun _ _ => rfl)) pa_arNil rfl)))) (pe_seeN (i := 2) rfl (.inl rfl) rfl rfl))) pss_nilS)))))))
abbrev s_law_same : Stmt := topS 17
theorem sc_law_same : FnScope ["_law_found", "_law_due", "_law_one", "_law_other"] ["_law_found", "_law_due"] (defScope s_law_same) := ⟨rfl, rfl, rfl, by decide +kernel, rfl, by decide +kernel, by decide +kernel⟩
def m_law_same : Nat → List T → R T
  | 0 => fun _ => .bad
  | fu + 1 => bodyR 2 [true, true] ((sq (ifS (tsB (isi2M "list" "tuple" (see (seeN 1)))) (sq (ifS (orB (tsB (binZ oNe (zT (isiM "list" (see (seeN 0)))) (zT (isiM "list" (see (seeN 1)))))) (tsB (binZ oNe (zT (isiM "tuple" (see (seeN 0)))) (zT (isiM "tuple" (see (seeN 1))))))) (sq (retS (kT (.bl false))) RS.nx) RS.nx) (sq (retS (andV (binZ oEq (zT (un1 oLen (see (seeN 0)))) (zT (un1 oLen (see (seeN 1))))) (un1 oAll (zT (compM (it2M zip2 (zT (rdz 0)) (zT (rdz 1))) [2, 3] (Tg.t [(Tg.n 2), (Tg.n 3)]).put (M.ret true) (zT (callM (m_law_same fu) [none, none] (argEx (rdz 2) (argEx (rdz 3) (M.ret [])))))))))) RS.nx)) RS.nx) (sq (ifS (isNB (see (seeN 1))) (sq (retS (isN (see (seeN 0)))) RS.nx) RS.nx) (sq (ifS (orB (tsB (binZ oNe (zT (isiM "bool" (see (seeN 0)))) (zT (isiM "bool" (see (seeN 1)))))) (tsB (binZ oNe (zT (isiM "str" (see (seeN 0)))) (zT (isiM "str" (see (seeN 1))))))) (sq (retS (kT (.bl false))) RS.nx) RS.nx) (sq (retS (andV (binZ oEq (zT (isiM "int" (see (seeN 0)))) (zT (isiM "int" (see (seeN 1))))) (binA oEq (see (seeN 0)) (seeN 1)))) RS.nx)))))
theorem ok_law_same (T : Tx K mg w) : ∀ n : Nat, Callee P w K mg base (n + 1) "_law_same" ["_law_found", "_law_due"] (m_law_same n)
  | 0 => callee_zero T.d_law_same
  | n + 1 => callee_of (m := (sq (ifS (tsB (isi2M "list" "tuple" (see (seeN 1)))) (sq (ifS (orB (tsB (binZ oNe (zT (isiM "list" (see (seeN 0)))) (zT (isiM "list" (see (seeN 1)))))) (tsB (binZ oNe (zT (isiM "tuple" (see (seeN 0)))) (zT (isiM "tuple" (see (seeN 1))))))) (sq (retS (kT (.bl false))) RS.nx) RS.nx) (sq (retS (andV (binZ oEq (zT (un1 oLen (see (seeN 0)))) (zT (un1 oLen (see (seeN 1))))) (un1 oAll (zT (compM (it2M zip2 (zT (rdz 0)) (zT (rdz 1))) [2, 3] (Tg.t [(Tg.n 2), (Tg.n 3)]).put (M.ret true) (zT (callM (m_law_same n) [none, none] (argEx (rdz 2) (argEx (rdz 3) (M.ret [])))))))))) RS.nx)) RS.nx) (sq (ifS (isNB (see (seeN 1))) (sq (retS (isN (see (seeN 0)))) RS.nx) RS.nx) (sq (ifS (orB (tsB (binZ oNe (zT (isiM "bool" (see (seeN 0)))) (zT (isiM "bool" (see (seeN 1)))))) (tsB (binZ oNe (zT (isiM "str" (see (seeN 0)))) (zT (isiM "str" (see (seeN 1))))))) (sq (retS (kT (.bl false))) RS.nx) RS.nx) (sq (retS (andV (binZ oEq (zT (isiM "int" (see (seeN 0)))) (zT (isiM "int" (see (seeN 1))))) (binA oEq (see (seeN 0)) (seeN 1)))) RS.nx))))) (ex := 2) (kp := [true, true]) (by decide) T.d_law_same sc_law_same rfl fun f cdv A outer s H E hr => (pss_consS (ps_ifS (t_plain (c_isi2 T.z_isinstance rfl T.z_list rfl boot_list (by decide) rfl T.z_tuple rfl boot_tuple (by decide) rfl (pe_atv (pe_seeN (i := 1) rfl (.inl rfl) rfl rfl)) rfl) rfl) (pss_consS (ps_ifS (PW.pt (pw_orB (t_cmpZ (op_neD (hu64 hr)) opNe (e_zT (c_isi T.z_isinstance rfl T.z_list rfl boot_list (by decide) rfl (pe_atv (pe_seeN (i := 0) rfl (.inl rfl) rfl rfl)) rfl)) (pe_zv (e_zT (c_isi T.z_isinstance rfl T.z_list rfl boot_list (by decide) rfl (pe_atv (pe_seeN (i := 1) rfl (.inl rfl) rfl rfl)) rfl))) (nomark _)) (w_or1 (t_cmpZ (op_neD (hu64 hr)) opNe (e_zT (c_isi T.z_isinstance rfl T.z_tuple rfl boot_tuple (by decide) rfl (pe_atv (pe_seeN (i := 0) rfl (.inl rfl) rfl rfl)) rfl)) (pe_zv (e_zT (c_isi T.z_isinstance rfl T.z_tuple rfl boot_tuple (by decide) rfl (pe_atv (pe_seeN (i := 1) rfl (.inl rfl) rfl rfl)) rfl))) (nomark _))))) (pss_consS (ps_retS (e_kT pe_bl fun _ => .bl _)) pss_nilS) pss_nilS) (pss_consS (ps_retS (pe_andV (e_cmpZ (op_eqD (hu64 hr)) opEq (e_zT (c_len T.z_len rfl (pe_atv (pe_seeN (i := 0) rfl (.inl rfl) rfl rfl)) rfl)) (pe_zv (e_zT (c_len T.z_len rfl (pe_atv (pe_seeN (i := 1) rfl (.inl rfl) rfl rfl)) rfl))) (nomark _)) (pe_one (c_all rfl T.z_all rfl (pe_zv (e_zT (pe_compM (own := [("_law_one", 2), ("_law_other", 3)]) (put := (Tg.t [(Tg.n 2), (Tg.n 3)]).put) rfl sc_law_same.nd (i_zip T.z_zip rfl (e_zT (pe_rdz (i := 0) rfl (.inl rfl) rfl rfl)) (e_zT (pe_rdz (i := 1) rfl (.inl rfl) rfl rfl)) rfl rfl) (blkOk_by (N := ["_law_found", "_law_due", "_law_one", "_law_other"]) (sc := defScope s_law_same) (by decide +kernel)) (fun _ _ _ _ _ => (pg_t rfl (pgs_consD (pg_n (i := 2) sc_law_same.nd rfl (.inl rfl) (.inr rfl) (show 2 ∉ others 4 [2, 3] by decide)) (pgs_consD (pg_n (i := 3) sc_law_same.nd rfl (.inl rfl) (.inr rfl) (show 3 ∉ others 4 [2, 3] by decide)) pgs_nilD rfl) rfl) rfl rfl)) (fun _ _ _ _ _ => pts_nilB) (fun _ _ _ _ _ => (e_zT (c_own (tks := [none, none]) (ok_law_same T n) hr rfl takes0 (pa_arEx (pe_rdz (i := 2) rfl (.inl rfl) rfl rfl) (pa_arEx (pe_rdz (i := 3) rfl (.inl rfl) rfl rfl) pa_arNil rfl) rfl) rfl rfl rfl))) (fun _ => rfl) (put_length _)))) rfl)))) pss_nilS)) pss_nilS) (pss_consS (ps_ifS (t_isN (pe_atv (pe_seeN (i := 1) rfl (.inl rfl) rfl rfl))) (pss_consS (ps_retS (e_isN (pe_atv (pe_seeN (i := 0) rfl (.inl rfl) rfl rfl)))) pss_nilS) pss_nilS) (pss_consS (ps_ifS (PW.pt (pw_orB (t_cmpZ (op_neD (hu64 hr)) opNe (e_zT (c_isi T.z_isinstance rfl T.z_bool rfl boot_bool (by decide) rfl (pe_atv (pe_seeN (i := 0) rfl (.inl rfl) rfl rfl)) rfl)) (pe_zv (e_zT (c_isi T.z_isinstance rfl T.z_bool rfl boot_bool (by decide) rfl (pe_atv (pe_seeN (i := 1) rfl (.inl rfl) rfl rfl)) rfl))) (nomark _)) (w_or1 (t_cmpZ (op_neD (hu64 hr)) opNe (e_zT (c_isi T.z_isinstance rfl T.z_str rfl boot_str (by decide) rfl (pe_atv (pe_seeN (i := 0) rfl (.inl rfl) rfl rfl)) rfl)) (pe_zv (e_zT (c_isi T.z_isinstance rfl T.z_str rfl boot_str (by decide) rfl (pe_atv (pe_seeN (i := 1) rfl (.inl rfl) rfl rfl)) rfl))) (nomark _))))) (pss_consS (ps_retS (e_kT pe_bl fun _ => .bl _)) pss_nilS) pss_nilS) (pss_consS (ps_retS (pe_andV (e_cmpZ (op_eqD (hu64 hr)) opEq (e_zT (c_isi T.z_isinstance rfl T.z_int rfl boot_int (by decide) rfl (pe_atv (pe_seeN (i := 0) rfl (.inl rfl) rfl rfl)) rfl)) (pe_zv (e_zT (c_isi T.z_isinstance rfl T.z_int rfl boot_int (by decide) rfl (pe_atv (pe_seeN (i := 1) rfl (.inl rfl) rfl rfl)) rfl))) (nomark _)) (pe_one (e_cmpA (op_eqD (hu64 hr)) opEq (pe_atv (pe_seeN (i := 0) rfl (.inl rfl) rfl rfl)) (pe_seeN (i := 1) rfl (.inl rfl) rfl rfl) (nomark _))))) pss_nilS))))
abbrev s_law_slip : Stmt := topS 20
theorem sc_law_slip : FnScope ["_law_draw"] ["_law_draw"] (defScope s_law_slip) := ⟨rfl, rfl, rfl, by decide +kernel, rfl, by decide +kernel, by decide +kernel⟩
def b_law_slip : S := (sq (retS (binZ oIx (zT (tupM (argEx (binZ oAdd (zT (kT (.int 1))) (zT (callM m_law_take [some 0, none] (argTk 0 (argEx (kT (.int 12)) (M.ret [])))))) (argEx (binZ oAdd (zT (kT (.int 3))) (zT (callM m_law_take [some 0, none] (argTk 0 (argEx (kT (.int 4)) (M.ret [])))))) (argEx (kT (.int 12)) (M.ret [])))))) (zT (callM m_law_take [some 0, none] (argTk 0 (argEx (kT (.int 3)) (M.ret []))))))) RS.nx)
def m_law_slip : List T → R T := bodyR 0 [true] b_law_slip
theorem ok_law_slip (T : Tx K mg w) (n : Nat) : Callee P w K mg base (n + 2) "_law_slip" ["_law_draw"] m_law_slip := callee_of (m := b_law_slip) (ex := 0) (kp := [true]) (by decide) T.d_law_slip sc_law_slip rfl fun f cdv A outer s H E hr => (pss_consS (ps_retS (e_ixZ (hu1 hr) (e_zT (pe_tupM (pa_arEx (e_binZ op_addAll opAdd (e_zT (e_kT pe_int fun _ => .int _)) (pe_zv (e_zT (c_own (tks := [some 0, none]) ((ok_law_take T 0).mono (show 0 + 1 ≤ n + 1 by omega)) hr rfl takes_cx (pa_arTk (i := 0) rfl (.inl rfl) rfl rfl (pa_arEx (e_kT pe_int fun _ => .int _) pa_arNil rfl)) rfl rfl rfl)))) (pa_arEx (e_binZ op_addAll opAdd (e_zT (e_kT pe_int fun _ => .int _)) (pe_zv (e_zT (c_own (tks := [some 0, none]) ((ok_law_take T 0).mono (show 0 + 1 ≤ n + 1 by omega)) hr rfl takes_cx (pa_arTk (i := 0) rfl (.inl rfl) rfl rfl (pa_arEx (e_kT pe_int fun _ => .int _) pa_arNil rfl)) rfl rfl rfl)))) (pa_arEx (e_kT pe_int fun _ => .int _) pa_arNil rfl) rfl) rfl))) (pe_zv (e_zT (c_own (tks := [some 0, none]) ((ok_law_take T 0).mono (show 0 + 1 ≤ n + 1 by omega)) hr rfl takes_cx (pa_arTk (i := 0) rfl (.inl rfl) rfl rfl (pa_arEx (e_kT pe_int fun _ => .int _) pa_arNil rfl)) rfl rfl rfl))) (fun _ _ => rfl))) pss_nilS)
abbrev s_law_some : Stmt := topS 19
theorem sc_law_some : FnScope ["_law_draw", "_law_pool", "_law_many", "_law_left", "_law_found", "_law_k"] ["_law_draw", "_law_pool", "_law_many"] (defScope s_law_some) := ⟨rfl, rfl, rfl, by decide +kernel, rfl, by decide +kernel, by decide +kernel⟩
def b_law_some : S := (sq (setS 3 (un1 oList (see (seeN 1)))) (sq (setS 4 (lstM (M.ret []))) (sq (forS (itM rng1 (zT (lendM (binZ oMin2 (zT (rdz 2)) (zT (un1 oLen (see (seeN 3)))))))) (Tg.n 5).put (sq (exprS (appM 4 (popM 3 (zT (callM m_law_take [some 0, none] (argTk 0 (argEx (fzM (lendM (un1 oLen (see (seeN 3))))) (M.ret [])))))))) RS.nx)) (sq (retS (mv 4)) RS.nx))))
def m_law_some : List T → R T := bodyR 3 [true, true, true] b_law_some
theorem ok_law_some (T : Tx K mg w) (n : Nat) : Callee P w K mg base (n + 2) "_law_some" ["_law_draw", "_law_pool", "_law_many"] m_law_some := callee_of (m := b_law_some) (ex := 3) (kp := [true, true, true]) (by decide) T.d_law_some sc_law_some rfl fun f cdv A outer s H E hr => (pss_consS (ps_setS (i := 3) (c_list rfl T.z_list rfl (pe_atv (pe_seeN (i := 1) rfl (.inl rfl) rfl rfl)) rfl) sc_law_some.nd rfl (.inl rfl) rfl (.inl rfl) (show 3 ∉ keptOf 0 [true, true, true] by decide)) (pss_consS (ps_setS (i := 4) (pe_lstM pa_arNil) sc_law_some.nd rfl (.inl rfl) rfl (.inl rfl) (show 4 ∉ keptOf 0 [true, true, true] by decide)) (pss_consS (ps_forS passes_cx rfl (i_rng1 T.z_range rfl (pe_zv (e_zT (pe_lend (c_minZ rfl T.z_min rfl (e_zT (pe_rdz (i := 2) rfl (.inl rfl) rfl rfl)) (pe_zv (e_zT (c_len T.z_len rfl (pe_atv (pe_seeN (i := 3) rfl (.inl rfl) rfl rfl)) rfl))) rfl rfl)))) rfl) (pg_n (i := 5) sc_law_some.nd rfl (.inl rfl) (.inl rfl) (show 5 ∉ keptOf 0 [true, true, true] by decide)) (pss_consS (ps_exprS (pe_appM (i := 4) rfl (.inl rfl) rfl rfl (pe_popM (i := 3) rfl (.inl rfl) rfl rfl (e_zT (c_own (tks := [some 0, none]) ((ok_law_take T 0).mono (show 0 + 1 ≤ n + 1 by omega)) hr rfl takes_cx (pa_arTk (i := 0) rfl (.inl rfl) rfl rfl (pa_arEx (e_fzM (pe_lend (c_len T.z_len rfl (pe_atv (pe_seeN (i := 3) rfl (.inl rfl) rfl rfl)) rfl))) pa_arNil rfl)) rfl rfl rfl)) rfl rfl) rfl rfl) rfl) pss_nilS) (fun _ => rfl)) (pss_consS (ps_retS (pe_mv (i := 4) rfl (.inl rfl) rfl rfl)) pss_nilS))))
abbrev s_law_any_timbers : Stmt := topS 21
theorem sc_law_any_timbers : FnScope ["_law_draw", "_law_many"] ["_law_draw", "_law_many"] (defScope s_law_any_timbers) := ⟨rfl, rfl, rfl, by decide +kernel, rfl, by decide +kernel, by decide +kernel⟩
def b_law_any_timbers : S := (sq (retS (un1 oTuple (zT (callM m_law_some [some 0, none, none] (argTk 0 (argEx (fzM (binZ oLR2 (zT (kT (.int 1))) (see (kA (.int 61))))) (argEx (rdz 1) (M.ret [])))))))) RS.nx)
def m_law_any_timbers : List T → R T := bodyR 0 [true, true] b_law_any_timbers
theorem ok_law_any_timbers (T : Tx K mg w) (n : Nat) : Callee P w K mg base (n + 3) "_law_any_timbers" ["_law_draw", "_law_many"] m_law_any_timbers := callee_of (m := b_law_any_timbers) (ex := 0) (kp := [true, true]) (by decide) T.d_law_any_timbers sc_law_any_timbers rfl fun f cdv A outer s H E hr => (pss_consS (ps_retS (c_tuple T.z_tuple rfl (pe_zv (e_zT (c_own (tks := [some 0, none, none]) ((ok_law_some T 0).mono (show 0 + 2 ≤ n + 2 by omega)) hr rfl takes_cx (pa_arTk (i := 0) rfl (.inl rfl) rfl rfl (pa_arEx (e_fzM (e_listRg2 rfl T.z_list rfl T.z_range rfl (e_zT (e_kT pe_int fun _ => .int _)) (pe_atv (e_kA pe_int fun _ => .int _)) rfl rfl)) (pa_arEx (pe_rdz (i := 1) rfl (.inl rfl) rfl rfl) pa_arNil rfl) rfl)) rfl rfl rfl))) rfl)) pss_nilS)
abbrev s_law_set : Stmt := topS 18
theorem sc_law_set : FnScope ["_law_timbers"] ["_law_timbers"] (defScope s_law_set) := ⟨rfl, rfl, rfl, by decide +kernel, rfl, by decide +kernel, by decide +kernel⟩
def b_law_set : S := (sq (retS (un1 oSorted (zT (un1 oSet (see (seeN 0)))))) RS.nx)
def m_law_set : List T → R T := bodyR 0 [true] b_law_set
theorem ok_law_set (T : Tx K mg w) (n : Nat) : Callee P w K mg base (n + 1) "_law_set" ["_law_timbers"] m_law_set := callee_of (m := b_law_set) (ex := 0) (kp := [true]) (by decide) T.d_law_set sc_law_set rfl fun f cdv A outer s H E hr => (pss_consS (ps_retS (c_sorted rfl T.z_sorted rfl (pe_zv (e_zT (c_set rfl T.z_set rfl (pe_atv (pe_seeN (i := 0) rfl (.inl rfl) rfl rfl)) rfl))) rfl)) pss_nilS)
def l0_law_sound_refit : S := (sq (setS 7 (fzM (callM m_law_some [some 0, none, none] (argTk 0 (argEx (rdz 4) (argEx (fzM (binZ oAdd (zT (kT (.int 1))) (zT (callM m_law_take [some 0, none] (argTk 0 (argEx (rdz 1) (M.ret []))))))) (M.ret []))))))) (sq (setS 4 (compM (itM itemsOf (zT (rdz 4))) [8] (Tg.n 8).put (tsB (binA oNotIn (see (seeN 8)) (seeN 7))) (zT (rdz 8)))) (sq (ifS (tsB (binZ oNe (zT (rdz 7)) (zT (lstM (M.ret []))))) (sq (exprS (appM 5 (un1 oTuple (see (seeN 7))))) RS.nx) RS.nx) RS.nx)))
abbrev s_law_sound_refit : Stmt := topS 22
theorem sc_law_sound_refit : FnScope ["_law_draw", "_law_slip_here", "_law_names", "_law_at", "_law_left", "_law_sets", "_law_k", "_law_some_here", "_law_timber"] ["_law_draw", "_law_slip_here"] (defScope s_law_sound_refit) := ⟨rfl, rfl, rfl, by decide +kernel, rfl, by decide +kernel, by decide +kernel⟩
def b_law_sound_refit : S := (sq (setS 2 (fzM (callM m_law_set [none] (argEx (fzM (compM (itM rng1 (zT (callM m_law_take [some 0, none] (argTk 0 (argEx (kT (.int 9)) (M.ret [])))))) [6] (Tg.n 6).put (M.ret true) (zT (binZ oAdd (zT (kT (.int 10))) (zT (callM m_law_take [some 0, none] (argTk 0 (argEx (kT (.int 3998)) (M.ret []))))))))) (M.ret []))))) (sq (setS 3 (callM m_law_take [some 0, none] (argTk 0 (argEx (fzM (binA oAdd (zT (un1 oLen (see (seeN 2)))) (kA (.int 1)))) (M.ret []))))) (sq (setS 4 (fzM (binZ oLR2 (zT (kT (.int 1))) (see (kA (.int 61)))))) (sq (setS 5 (lstM (M.ret []))) (sq (forS (itM rng1 (zT (callM m_law_take [some 0, none] (argTk 0 (argEx (kT (.int 9)) (M.ret [])))))) (Tg.n 6).put l0_law_sound_refit) (sq (ifS (lendB (andB (tsB (binZ oEq (zT (rdz 2)) (zT (lstM (M.ret []))))) (tsB (binZ oEq (zT (rdz 5)) (zT (lstM (M.ret []))))))) (sq (setS 2 (fzM (lstM (argEx (kT (.int 4007)) (M.ret []))))) RS.nx) RS.nx) (sq (retS (tupM (argEx (kT (.str "refit")) (argEx (un1 oTuple (zT (binZ oAdd (zT (slM (zT (rdz 2)) (some (zT (rdz 3))) none)) (zT (slM (zT (rdz 2)) none (some (zT (rdz 3)))))))) (argEx (un1 oTuple (see (seeN 5))) (M.ret [])))))) RS.nx)))))))
def m_law_sound_refit : List T → R T := bodyR 7 [true, true] b_law_sound_refit
theorem ok_law_sound_refit (T : Tx K mg w) (n : Nat) : Callee P w K mg base (n + 3) "_law_sound_refit" ["_law_draw", "_law_slip_here"] m_law_sound_refit := callee_of (m := b_law_sound_refit) (ex := 7) (kp := [true, true]) (by decide) T.d_law_sound_refit sc_law_sound_refit rfl fun f cdv A outer s H E hr => (pss_consS (ps_setS (i := 2) (e_fzM (c_own (tks := [none]) ((ok_law_set T 0).mono (show 0 + 1 ≤ n + 2 by omega)) hr rfl takes_cx (pa_arEx (e_fzM (pe_compM (own := [("_law_k", 6)]) (put := (Tg.n 6).put) rfl sc_law_sound_refit.nd (i_rng1 T.z_range rfl (pe_zv (e_zT (c_own (tks := [some 0, none]) ((ok_law_take T 0).mono (show 0 + 1 ≤ n + 2 by omega)) hr rfl takes_cx (pa_arTk (i := 0) rfl (.inr (.inl rfl)) rfl rfl (pa_arEx (e_kT pe_int fun _ => .int _) pa_arNil rfl)) rfl rfl rfl))) rfl) (blkOk_by (N := ["_law_draw", "_law_slip_here", "_law_names", "_law_at", "_law_left", "_law_sets", "_law_k", "_law_some_here", "_law_timber"]) (sc := defScope s_law_sound_refit) (by decide +kernel)) (fun _ _ _ _ _ => (pg_n (i := 6) sc_law_sound_refit.nd rfl (.inl rfl) (.inr rfl) (show 6 ∉ others 9 [6] by decide))) (fun _ _ _ _ _ => pts_nilB) (fun _ _ _ _ _ => (e_zT (e_binZ op_addAll opAdd (e_zT (e_kT pe_int fun _ => .int _)) (pe_zv (e_zT (c_own (tks := [some 0, none]) ((ok_law_take T 0).mono (show 0 + 1 ≤ n + 2 by omega)) hr rfl takes0 (pa_arTk (i := 0) rfl (.inr (.inl rfl)) rfl rfl (pa_arEx (e_kT pe_int fun _ => .int _) pa_arNil rfl)) rfl rfl rfl)))))) (fun _ => rfl) (put_length _))) pa_arNil rfl) rfl rfl rfl)) sc_law_sound_refit.nd rfl (.inl rfl) rfl (.inl rfl) (show 2 ∉ keptOf 0 [true, true] by decide)) (pss_consS (ps_setS (i := 3) (c_own (tks := [some 0, none]) ((ok_law_take T 0).mono (show 0 + 1 ≤ n + 2 by omega)) hr rfl takes_cx (pa_arTk (i := 0) rfl (.inr (.inl rfl)) rfl rfl (pa_arEx (e_fzM (e_binA op_addAll opAdd (pe_zv (e_zT (c_len T.z_len rfl (pe_atv (pe_seeN (i := 2) rfl (.inl rfl) rfl rfl)) rfl))) (e_kA pe_int fun _ => .int _))) pa_arNil rfl)) rfl rfl rfl) sc_law_sound_refit.nd rfl (.inl rfl) rfl (.inl rfl) (show 3 ∉ keptOf 0 [true, true] by decide)) (pss_consS (ps_setS (i := 4) (e_fzM (e_listRg2 rfl T.z_list rfl T.z_range rfl (e_zT (e_kT pe_int fun _ => .int _)) (pe_atv (e_kA pe_int fun _ => .int _)) rfl rfl)) sc_law_sound_refit.nd rfl (.inl rfl) rfl (.inl rfl) (show 4 ∉ keptOf 0 [true, true] by decide)) (pss_consS (ps_setS (i := 5) (pe_lstM pa_arNil) sc_law_sound_refit.nd rfl (.inl rfl) rfl (.inl rfl) (show 5 ∉ keptOf 0 [true, true] by decide)) (pss_consS (ps_forS passes_cx rfl (i_rng1 T.z_range rfl (pe_zv (e_zT (c_own (tks := [some 0, none]) ((ok_law_take T 0).mono (show 0 + 1 ≤ n + 2 by omega)) hr rfl takes_cx (pa_arTk (i := 0) rfl (.inr (.inl rfl)) rfl rfl (pa_arEx (e_kT pe_int fun _ => .int _) pa_arNil rfl)) rfl rfl rfl))) rfl) (pg_n (i := 6) sc_law_sound_refit.nd rfl (.inl rfl) (.inl rfl) (show 6 ∉ keptOf 0 [true, true] by decide)) (pss_consS (ps_setS (i := 7) (e_fzM (c_own (tks := [some 0, none, none]) ((ok_law_some T 0).mono (show 0 + 2 ≤ n + 2 by omega)) hr rfl takes_cx (pa_arTk (i := 0) rfl (.inr (.inl rfl)) rfl rfl (pa_arEx (pe_rdz (i := 4) rfl (.inl rfl) rfl rfl) (pa_arEx (e_fzM (e_binZ op_addAll opAdd (e_zT (e_kT pe_int fun _ => .int _)) (pe_zv (e_zT (c_own (tks := [some 0, none]) ((ok_law_take T 0).mono (show 0 + 1 ≤ n + 2 by omega)) hr rfl takes_cx (pa_arTk (i := 0) rfl (.inr (.inl rfl)) rfl rfl (pa_arEx (pe_rdz (i := 1) rfl (.inl rfl) rfl rfl) pa_arNil rfl)) rfl rfl rfl))))) pa_arNil rfl) rfl)) rfl rfl rfl)) sc_law_sound_refit.nd rfl (.inr rfl) rfl (.inl rfl) (show 7 ∉ keptOf 0 [true, true] by decide)) (pss_consS (ps_setCompM (i := 4) (own := [("_law_timber", 8)]) (put := (Tg.n 8).put) rfl sc_law_sound_refit.nd rfl rfl (sw_true rfl rfl rfl (by decide +kernel)) (i_seq (e_zT (pe_rdz (i := 4) rfl (.inl rfl) rfl rfl))) (blkOk_by (N := ["_law_draw", "_law_slip_here", "_law_names", "_law_at", "_law_left", "_law_sets", "_law_k", "_law_some_here", "_law_timber"]) (sc := defScope s_law_sound_refit) (by decide +kernel)) (fun _ _ _ _ _ => (pg_n (i := 8) sc_law_sound_refit.nd rfl (.inl rfl) (.inr rfl) (show 8 ∉ others 9 [8] by decide))) (fun _ _ _ _ _ => (pts_oneB (t_cmpA (op_notInAll (hu65 hr)) opNotIn (pe_atv (pe_seeN (i := 8) rfl (.inl rfl) rfl rfl)) (pe_seeN (i := 7) rfl (.inr (.inl rfl)) rfl rfl) rfl))) (fun _ _ _ _ _ => (e_zT (pe_rdz (i := 8) rfl (.inl rfl) rfl rfl))) (fun _ => rfl) (put_length _) (show 4 ∉ keptOf 0 [true, true] by decide)) (pss_consS (ps_ifS (t_cmpZ (op_neD (hu64 hr)) opNe (e_zT (pe_rdz (i := 7) rfl (.inr (.inl rfl)) rfl rfl)) (pe_zv (e_zT (pe_lstM pa_arNil))) (nomark _)) (pss_consS (ps_exprS (pe_appM (i := 5) rfl (.inl rfl) rfl rfl (c_tuple T.z_tuple rfl (pe_atv (pe_seeN (i := 7) rfl (.inr (.inl rfl)) rfl rfl)) rfl) rfl rfl) rfl) pss_nilS) pss_nilS) pss_nilS))) (fun _ => rfl)) (pss_consS (ps_ifS (pt_lend (PW.pt (pw_andB (t_cmpZ (op_eqD (hu64 hr)) opEq (e_zT (pe_rdz (i := 2) rfl (.inl rfl) rfl rfl)) (pe_zv (e_zT (pe_lstM pa_arNil))) (nomark _)) (w_and1 (t_cmpZ (op_eqD (hu64 hr)) opEq (e_zT (pe_rdz (i := 5) rfl (.inl rfl) rfl rfl)) (pe_zv (e_zT (pe_lstM pa_arNil))) (nomark _)))))) (pss_consS (ps_setS (i := 2) (e_fzM (pe_lstM (pa_arEx (e_kT pe_int fun _ => .int _) pa_arNil rfl))) sc_law_sound_refit.nd rfl (.inl rfl) rfl (.inl rfl) (show 2 ∉ keptOf 0 [true, true] by decide)) pss_nilS) pss_nilS) (pss_consS (ps_retS (pe_tupM (pa_arEx (e_kT pe_str fun _ => .str _) (pa_arEx (c_tuple T.z_tuple rfl (pe_zv (e_zT (e_binZ op_addAll opAdd (e_zT (pe_slM (e_zT (pe_rdz (i := 2) rfl (.inl rfl) rfl rfl)) (po_someM (e_zT (pe_rdz (i := 3) rfl (.inl rfl) rfl rfl))) po_noneM)) (pe_zv (e_zT (pe_slM (e_zT (pe_rdz (i := 2) rfl (.inl rfl) rfl rfl)) po_noneM (po_someM (e_zT (pe_rdz (i := 3) rfl (.inl rfl) rfl rfl))))))))) rfl) (pa_arEx (c_tuple T.z_tuple rfl (pe_atv (pe_seeN (i := 5) rfl (.inl rfl) rfl rfl)) rfl) pa_arNil rfl) rfl) rfl))) pss_nilS)))))))
abbrev s_law_sound_fact : Stmt := topS 23
theorem sc_law_sound_fact : FnScope ["_law_draw", "_law_slip_here", "_law_way", "_law_name"] ["_law_draw", "_law_slip_here"] (defScope s_law_sound_fact) := ⟨rfl, rfl, rfl, by decide +kernel, rfl, by decide +kernel, by decide +kernel⟩
def b_law_sound_fact : S := (sq (setS 2 (callM m_law_take [some 0, none] (argTk 0 (argEx (kT (.int 8)) (M.ret []))))) (sq (setS 3 (fzM (binZ oAdd (zT (kT (.int 10))) (zT (callM m_law_take [some 0, none] (argTk 0 (argEx (kT (.int 3998)) (M.ret [])))))))) (sq (ifS (tsB (binA oEq (see (seeN 2)) (kA (.int 0)))) (sq (retS (tupM (argEx (kT (.str "fell")) (argEx (binZ oAdd (zT (kT (.int 1))) (zT (callM m_law_take [some 0, none] (argTk 0 (argEx (kT (.int 60)) (M.ret [])))))) (M.ret []))))) RS.nx) RS.nx) (sq (ifS (tsB (binA oLt (see (seeN 2)) (kA (.int 3)))) (sq (retS (callM m_law_sound_refit [some 0, none] (argTk 0 (argEx (rdz 1) (M.ret []))))) RS.nx) RS.nx) (sq (ifS (tsB (binA oLt (see (seeN 2)) (kA (.int 5)))) (sq (retS (tupM (argEx (binZ oIx (zT (tupM (argEx (kT (.str "storm")) (argEx (kT (.str "find")) (M.ret []))))) (zT (binA oSub (see (seeN 2)) (kA (.int 3))))) (argEx (callM m_law_any_timbers [some 0, none] (argTk 0 (argEx (fzM (binZ oAdd (zT (kT (.int 1))) (zT (callM m_law_take [some 0, none] (argTk 0 (argEx (fzM (binZ oIx (zT (tupM (argEx (kT (.int 4)) (argEx (kT (.int 60)) (M.ret []))))) (zT (callM m_law_take [some 0, none] (argTk 0 (argEx (kT (.int 2)) (M.ret []))))))) (M.ret []))))))) (M.ret [])))) (M.ret []))))) RS.nx) RS.nx) (sq (ifS (tsB (binA oLt (see (seeN 2)) (kA (.int 7)))) (sq (retS (tupM (argEx (binZ oIx (zT (tupM (argEx (kT (.str "lend")) (argEx (kT (.str "pay")) (M.ret []))))) (zT (binA oSub (see (seeN 2)) (kA (.int 5))))) (argEx (rdz 3) (argEx (binZ oAdd (zT (kT (.int 1))) (zT (callM m_law_take [some 0, none] (argTk 0 (argEx (fzM (binZ oIx (zT (tupM (argEx (kT (.int 9)) (argEx (binA oPow (see (kA (.int 10))) (kA (.int 6))) (M.ret []))))) (zT (callM m_law_take [some 0, none] (argTk 0 (argEx (kT (.int 2)) (M.ret []))))))) (M.ret [])))))) (M.ret [])))))) RS.nx) RS.nx) (sq (retS (tupM (argEx (kT (.str "clear")) (argEx (binZ oAdd (zT (kT (.int 1))) (zT (callM m_law_take [some 0, none] (argTk 0 (argEx (kT (.int 60)) (M.ret [])))))) (M.ret []))))) RS.nx)))))))
def m_law_sound_fact : List T → R T := bodyR 2 [true, true] b_law_sound_fact
theorem ok_law_sound_fact (T : Tx K mg w) (n : Nat) : Callee P w K mg base (n + 4) "_law_sound_fact" ["_law_draw", "_law_slip_here"] m_law_sound_fact := callee_of (m := b_law_sound_fact) (ex := 2) (kp := [true, true]) (by decide) T.d_law_sound_fact sc_law_sound_fact rfl fun f cdv A outer s H E hr => (pss_consS (ps_setS (i := 2) (c_own (tks := [some 0, none]) ((ok_law_take T 0).mono (show 0 + 1 ≤ n + 3 by omega)) hr rfl takes_cx (pa_arTk (i := 0) rfl (.inl rfl) rfl rfl (pa_arEx (e_kT pe_int fun _ => .int _) pa_arNil rfl)) rfl rfl rfl) sc_law_sound_fact.nd rfl (.inl rfl) rfl (.inl rfl) (show 2 ∉ keptOf 0 [true, true] by decide)) (pss_consS (ps_setS (i := 3) (e_fzM (e_binZ op_addAll opAdd (e_zT (e_kT pe_int fun _ => .int _)) (pe_zv (e_zT (c_own (tks := [some 0, none]) ((ok_law_take T 0).mono (show 0 + 1 ≤ n + 3 by omega)) hr rfl takes_cx (pa_arTk (i := 0) rfl (.inl rfl) rfl rfl (pa_arEx (e_kT pe_int fun _ => .int _) pa_arNil rfl)) rfl rfl rfl))))) sc_law_sound_fact.nd rfl (.inl rfl) rfl (.inl rfl) (show 3 ∉ keptOf 0 [true, true] by decide)) (pss_consS (ps_ifS (t_cmpA (op_eqD (hu64 hr)) opEq (pe_atv (pe_seeN (i := 2) rfl (.inl rfl) rfl rfl)) (e_kA pe_int fun _ => .int _) (nomark _)) (pss_consS (ps_retS (pe_tupM (pa_arEx (e_kT pe_str fun _ => .str _) (pa_arEx (e_binZ op_addAll opAdd (e_zT (e_kT pe_int fun _ => .int _)) (pe_zv (e_zT (c_own (tks := [some 0, none]) ((ok_law_take T 0).mono (show 0 + 1 ≤ n + 3 by omega)) hr rfl takes_cx (pa_arTk (i := 0) rfl (.inl rfl) rfl rfl (pa_arEx (e_kT pe_int fun _ => .int _) pa_arNil rfl)) rfl rfl rfl)))) pa_arNil rfl) rfl))) pss_nilS) pss_nilS) (pss_consS (ps_ifS (t_cmpA (op_ltAll (hu64 hr)) opLt (pe_atv (pe_seeN (i := 2) rfl (.inl rfl) rfl rfl)) (e_kA pe_int fun _ => .int _) (nomark _)) (pss_consS (ps_retS (c_own (tks := [some 0, none]) ((ok_law_sound_refit T 0).mono (show 0 + 3 ≤ n + 3 by omega)) hr rfl takes_cx (pa_arTk (i := 0) rfl (.inl rfl) rfl rfl (pa_arEx (pe_rdz (i := 1) rfl (.inl rfl) rfl rfl) pa_arNil rfl)) rfl rfl rfl)) pss_nilS) pss_nilS) (pss_consS (ps_ifS (t_cmpA (op_ltAll (hu64 hr)) opLt (pe_atv (pe_seeN (i := 2) rfl (.inl rfl) rfl rfl)) (e_kA pe_int fun _ => .int _) (nomark _)) (pss_consS (ps_retS (pe_tupM (pa_arEx (e_ixZ (hu1 hr) (e_zT (pe_tupM (pa_arEx (e_kT pe_str fun _ => .str _) (pa_arEx (e_kT pe_str fun _ => .str _) pa_arNil rfl) rfl))) (pe_zv (e_zT (e_binA op_sub opSub (pe_atv (pe_seeN (i := 2) rfl (.inl rfl) rfl rfl)) (e_kA pe_int fun _ => .int _)))) (fun _ _ => rfl)) (pa_arEx (c_own (tks := [some 0, none]) ((ok_law_any_timbers T 0).mono (show 0 + 3 ≤ n + 3 by omega)) hr rfl takes_cx (pa_arTk (i := 0) rfl (.inl rfl) rfl rfl (pa_arEx (e_fzM (e_binZ op_addAll opAdd (e_zT (e_kT pe_int fun _ => .int _)) (pe_zv (e_zT (c_own (tks := [some 0, none]) ((ok_law_take T 0).mono (show 0 + 1 ≤ n + 3 by omega)) hr rfl takes_cx (pa_arTk (i := 0) rfl (.inl rfl) rfl rfl (pa_arEx (e_fzM (e_ixZ (hu1 hr) (e_zT (pe_tupM (pa_arEx (e_kT pe_int fun _ => .int _) (pa_arEx (e_kT pe_int fun _ => .int _) pa_arNil rfl) rfl))) (pe_zv (e_zT (c_own (tks := [some 0, none]) ((ok_law_take T 0).mono (show 0 + 1 ≤ n + 3 by omega)) hr rfl takes_cx (pa_arTk (i := 0) rfl (.inl rfl) rfl rfl (pa_arEx (e_kT pe_int fun _ => .int _) pa_arNil rfl)) rfl rfl rfl))) (fun _ _ => rfl))) pa_arNil rfl)) rfl rfl rfl))))) pa_arNil rfl)) rfl rfl rfl) pa_arNil rfl) rfl))) pss_nilS) pss_nilS) (pss_consS (ps_ifS (t_cmpA (op_ltAll (hu64 hr)) opLt (pe_atv (pe_seeN (i := 2) rfl (.inl rfl) rfl rfl)) (e_kA pe_int fun _ => .int _) (nomark _)) (pss_consS (ps_retS (pe_tupM (pa_arEx (e_ixZ (hu1 hr) (e_zT (pe_tupM (pa_arEx (e_kT pe_str fun _ => .str _) (pa_arEx (e_kT pe_str fun _ => .str _) pa_arNil rfl) rfl))) (pe_zv (e_zT (e_binA op_sub opSub (pe_atv (pe_seeN (i := 2) rfl (.inl rfl) rfl rfl)) (e_kA pe_int fun _ => .int _)))) (fun _ _ => rfl)) (pa_arEx (pe_rdz (i := 3) rfl (.inl rfl) rfl rfl) (pa_arEx (e_binZ op_addAll opAdd (e_zT (e_kT pe_int fun _ => .int _)) (pe_zv (e_zT (c_own (tks := [some 0, none]) ((ok_law_take T 0).mono (show 0 + 1 ≤ n + 3 by omega)) hr rfl takes_cx (pa_arTk (i := 0) rfl (.inl rfl) rfl rfl (pa_arEx (e_fzM (e_ixZ (hu1 hr) (e_zT (pe_tupM (pa_arEx (e_kT pe_int fun _ => .int _) (pa_arEx (e_binA op_pow opPow (pe_atv (e_kA pe_int fun _ => .int _)) (e_kA pe_int fun _ => .int _)) pa_arNil rfl) rfl))) (pe_zv (e_zT (c_own (tks := [some 0, none]) ((ok_law_take T 0).mono (show 0 + 1 ≤ n + 3 by omega)) hr rfl takes_cx (pa_arTk (i := 0) rfl (.inl rfl) rfl rfl (pa_arEx (e_kT pe_int fun _ => .int _) pa_arNil rfl)) rfl rfl rfl))) (fun _ _ => rfl))) pa_arNil rfl)) rfl rfl rfl)))) pa_arNil rfl) rfl) rfl))) pss_nilS) pss_nilS) (pss_consS (ps_retS (pe_tupM (pa_arEx (e_kT pe_str fun _ => .str _) (pa_arEx (e_binZ op_addAll opAdd (e_zT (e_kT pe_int fun _ => .int _)) (pe_zv (e_zT (c_own (tks := [some 0, none]) ((ok_law_take T 0).mono (show 0 + 1 ≤ n + 3 by omega)) hr rfl takes_cx (pa_arTk (i := 0) rfl (.inl rfl) rfl rfl (pa_arEx (e_kT pe_int fun _ => .int _) pa_arNil rfl)) rfl rfl rfl)))) pa_arNil rfl) rfl))) pss_nilS)))))))
abbrev s_number : Stmt := topS 8
theorem sc_number : FnScope ["text", "sign"] ["text"] (defScope s_number) := ⟨rfl, rfl, rfl, by decide +kernel, rfl, by decide +kernel, by decide +kernel⟩
def b_number : S := (sq (ifS (orB (tsB (binA oEq (see (seeN 0)) (kA (.str "")))) (andB (tsB (binA oGt (zT (un1 oLen (see (seeN 0)))) (kA (.int 1)))) (tsB (binA oEq (zT (binA oIx (see (seeN 0)) (kA (.int 0)))) (kA (.str "0")))))) (sq (retS (kT .non)) RS.nx) RS.nx) (sq (forS (itM signsOf (zT (rdz 0))) (Tg.n 1).put (sq (ifS (tsB (binA oNotIn (see (seeN 1)) (kA (.str "0123456789")))) (sq (retS (kT .non)) RS.nx) RS.nx) RS.nx)) (sq (retS (un1 oInt (see (seeN 0)))) RS.nx)))
def m_number : List T → R T := bodyR 1 [true] b_number
theorem ok_number (T : Tx K mg w) (n : Nat) : Callee P w K mg base (n + 1) "number" ["text"] m_number := callee_of (m := b_number) (ex := 1) (kp := [true]) (by decide) T.d_number sc_number rfl fun f cdv A outer s H E hr => (pss_consS (ps_ifS (PW.pt (pw_orB (t_cmpA (op_eqD (hu64 hr)) opEq (pe_atv (pe_seeN (i := 0) rfl (.inl rfl) rfl rfl)) (e_kA pe_str fun _ => .str _) (nomark _)) (w_or1 (PW.pt (pw_andB (t_cmpA op_gt opGt (pe_zv (e_zT (c_len T.z_len rfl (pe_atv (pe_seeN (i := 0) rfl (.inl rfl) rfl rfl)) rfl))) (e_kA pe_int fun _ => .int _) (nomark _)) (w_and1 (t_cmpA (op_eqD (hu64 hr)) opEq (pe_zv (e_zT (e_ixA (hu1 hr) (pe_atv (pe_seeN (i := 0) rfl (.inl rfl) rfl rfl)) (e_kA pe_int fun _ => .int _) (fun _ _ => rfl)))) (e_kA pe_str fun _ => .str _) (nomark _)))))))) (pss_consS (ps_retS (e_kT pe_non fun _ => .non)) pss_nilS) pss_nilS) (pss_consS (ps_forS passes_cx rfl (i_str (e_zT (pe_rdz (i := 0) rfl (.inl rfl) rfl rfl))) (pg_n (i := 1) sc_number.nd rfl (.inl rfl) (.inl rfl) (show 1 ∉ keptOf 0 [true] by decide)) (pss_consS (ps_ifS (t_cmpA (op_notInAll (hu65 hr)) opNotIn (pe_atv (pe_seeN (i := 1) rfl (.inl rfl) rfl rfl)) (e_kA (pe_gstr T.g_FIGURES rfl rfl) fun _ => .str _) rfl) (pss_consS (ps_retS (e_kT pe_non fun _ => .non)) pss_nilS) pss_nilS) pss_nilS) (fun _ => rfl)) (pss_consS (ps_retS (c_int T.z_int rfl (pe_atv (pe_seeN (i := 0) rfl (.inl rfl) rfl rfl)) rfl)) pss_nilS)))
abbrev s_numbers_of : Stmt := topS 9
theorem sc_numbers_of : FnScope ["words", "found", "word"] ["words"] (defScope s_numbers_of) := ⟨rfl, rfl, rfl, by decide +kernel, rfl, by decide +kernel, by decide +kernel⟩
def b_numbers_of : S := (sq (setS 1 (compM (itM itemsOf (zT (rdz 0))) [2] (Tg.n 2).put (M.ret true) (zT (callM m_number [none] (argEx (rdz 2) (M.ret [])))))) (sq (ifS (tsB (binA oIn (see (kA .non)) (seeN 1))) (sq (RS.ex "BadText") RS.nx) RS.nx) (sq (retS (un1 oTuple (see (seeN 1)))) RS.nx)))
def m_numbers_of : List T → R T := bodyR 2 [true] b_numbers_of
theorem ok_numbers_of (T : Tx K mg w) (n : Nat) : Callee P w K mg base (n + 2) "numbers_of" ["words"] m_numbers_of := callee_of (m := b_numbers_of) (ex := 2) (kp := [true]) (by decide) T.d_numbers_of sc_numbers_of rfl fun f cdv A outer s H E hr => (pss_consS (ps_setCompM (i := 1) (own := [("word", 2)]) (put := (Tg.n 2).put) rfl sc_numbers_of.nd rfl rfl (sw_true rfl rfl rfl (by decide +kernel)) (i_seq (e_zT (pe_rdz (i := 0) rfl (.inl rfl) rfl rfl))) (blkOk_by (N := ["words", "found", "word"]) (sc := defScope s_numbers_of) (by decide +kernel)) (fun _ _ _ _ _ => (pg_n (i := 2) sc_numbers_of.nd rfl (.inl rfl) (.inr rfl) (show 2 ∉ others 3 [2] by decide))) (fun _ _ _ _ _ => pts_nilB) (fun _ _ _ _ _ => (e_zT (c_own (tks := [none]) ((ok_number T 0).mono (show 0 + 1 ≤ n + 1 by omega)) hr rfl takes0 (pa_arEx (pe_rdz (i := 2) rfl (.inl rfl) rfl rfl) pa_arNil rfl) rfl rfl rfl))) (fun _ => rfl) (put_length _) (show 1 ∉ keptOf 0 [true] by decide)) (pss_consS (ps_ifS (t_cmpA (op_inAll (hu65 hr)) opIn (pe_atv (e_kA pe_non fun _ => .non)) (pe_seeN (i := 1) rfl (.inl rfl) rfl rfl) rfl) (pss_consS (ps_raiseO T.e_BadText rfl takes_cx rfl rfl) pss_nilS) pss_nilS) (pss_consS (ps_retS (c_tuple T.z_tuple rfl (pe_atv (pe_seeN (i := 1) rfl (.inl rfl) rfl rfl)) rfl)) pss_nilS)))
def l0_pieces_of : S := (sq (ifS (tsB (binA oEq (see (seeN 2)) (kA (.str "/")))) (sq (exprS (appM 1 (lstM (M.ret [])))) RS.nx) (sq (exprS (napM 1 (zT (un1 oNeg (see (kA (.int 1))))) (seeN 2))) RS.nx)) RS.nx)
abbrev s_pieces_of : Stmt := topS 10
theorem sc_pieces_of : FnScope ["words", "pieces", "word"] ["words"] (defScope s_pieces_of) := ⟨rfl, rfl, rfl, by decide +kernel, rfl, by decide +kernel, by decide +kernel⟩
def b_pieces_of : S := (sq (setS 1 (lstM (argEx (lstM (M.ret [])) (M.ret [])))) (sq (forS (itM itemsOf (zT (rdz 0))) (Tg.n 2).put l0_pieces_of) (sq (retS (mv 1)) RS.nx)))
def m_pieces_of : List T → R T := bodyR 2 [true] b_pieces_of
theorem ok_pieces_of (T : Tx K mg w) (n : Nat) : Callee P w K mg base (n + 1) "pieces_of" ["words"] m_pieces_of := callee_of (m := b_pieces_of) (ex := 2) (kp := [true]) (by decide) T.d_pieces_of sc_pieces_of rfl fun f cdv A outer s H E hr => (pss_consS (ps_setS (i := 1) (pe_lstM (pa_arEx (pe_lstM pa_arNil) pa_arNil rfl)) sc_pieces_of.nd rfl (.inl rfl) rfl (.inl rfl) (show 1 ∉ keptOf 0 [true] by decide)) (pss_consS (ps_forS passes_cx rfl (i_seq (e_zT (pe_rdz (i := 0) rfl (.inl rfl) rfl rfl))) (pg_n (i := 2) sc_pieces_of.nd rfl (.inl rfl) (.inl rfl) (show 2 ∉ keptOf 0 [true] by decide)) (pss_consS (ps_ifS (t_cmpA (op_eqD (hu64 hr)) opEq (pe_atv (pe_seeN (i := 2) rfl (.inl rfl) rfl rfl)) (e_kA pe_str fun _ => .str _) (nomark _)) (pss_consS (ps_exprS (pe_appM (i := 1) rfl (.inl rfl) rfl rfl (pe_lstM pa_arNil) rfl rfl) rfl) pss_nilS) (pss_consS (ps_exprS (pe_napM (i := 1) (hu1 hr) rfl (.inl rfl) rfl rfl (e_zT (e_un un_neg opNeg (pe_atv (e_kA pe_int fun _ => .int _)))) (fun _ _ => rfl) (pe_seeN (i := 2) rfl (.inl rfl) rfl rfl) rfl rfl rfl) rfl) pss_nilS)) pss_nilS) (fun _ => rfl)) (pss_consS (ps_retS (pe_mv (i := 1) rfl (.inl rfl) rfl rfl)) pss_nilS)))
abbrev s_read_refit : Stmt := topS 11
theorem sc_read_refit : FnScope ["words", "pieces", "piece"] ["words"] (defScope s_read_refit) := ⟨rfl, rfl, rfl, by decide +kernel, rfl, by decide +kernel, by decide +kernel⟩
def b_read_refit : S := (sq (setS 1 (fzM (callM m_pieces_of [none] (argEx (rdz 0) (M.ret []))))) (sq (ifS (orB (tsB (binA oEq (zT (un1 oLen (see (seeN 0)))) (kA (.int 0)))) (tsB (binZ oIn (zT (lstM (M.ret []))) (zT (slM (zT (rdz 1)) (some (zT (kT (.int 1)))) none))))) (sq (RS.ex "BadText") RS.nx) RS.nx) (sq (retS (tupM (argEx (kT (.str "refit")) (argEx (callM m_numbers_of [none] (argEx (fzM (binA oIx (see (seeN 1)) (kA (.int 0)))) (M.ret []))) (argEx (un1 oTuple (zT (compX (itM itemsOf (zT (slM (zT (rdz 1)) (some (zT (kT (.int 1)))) none))) [2] (Tg.n 2).put (M.ret true) (zT (callM m_numbers_of [none] (argEx (rdz 2) (M.ret []))))))) (M.ret [])))))) RS.nx)))
def m_read_refit : List T → R T := bodyR 2 [true] b_read_refit
theorem ok_read_refit (T : Tx K mg w) (n : Nat) : Callee P w K mg base (n + 3) "read_refit" ["words"] m_read_refit := callee_of (m := b_read_refit) (ex := 2) (kp := [true]) (by decide) T.d_read_refit sc_read_refit rfl fun f cdv A outer s H E hr => (pss_consS (ps_setS (i := 1) (e_fzM (c_own (tks := [none]) ((ok_pieces_of T 0).mono (show 0 + 1 ≤ n + 2 by omega)) hr rfl takes_cx (pa_arEx (pe_rdz (i := 0) rfl (.inl rfl) rfl rfl) pa_arNil rfl) rfl rfl rfl)) sc_read_refit.nd rfl (.inl rfl) rfl (.inl rfl) (show 1 ∉ keptOf 0 [true] by decide)) (pss_consS (ps_ifS (PW.pt (pw_orB (t_cmpA (op_eqD (hu64 hr)) opEq (pe_zv (e_zT (c_len T.z_len rfl (pe_atv (pe_seeN (i := 0) rfl (.inl rfl) rfl rfl)) rfl))) (e_kA pe_int fun _ => .int _) (nomark _)) (w_or1 (t_cmpZ (op_inAll (hu65 hr)) opIn (e_zT (pe_lstM pa_arNil)) (pe_zv (e_zT (pe_slM (e_zT (pe_rdz (i := 1) rfl (.inl rfl) rfl rfl)) (po_someM (e_zT (e_kT pe_int fun _ => .int _))) po_noneM))) rfl)))) (pss_consS (ps_raiseO T.e_BadText rfl takes_cx rfl rfl) pss_nilS) pss_nilS) (pss_consS (ps_retS (pe_tupM (pa_arEx (e_kT pe_str fun _ => .str _) (pa_arEx (c_own (tks := [none]) ((ok_numbers_of T 0).mono (show 0 + 2 ≤ n + 2 by omega)) hr rfl takes_cx (pa_arEx (e_fzM (e_ixA (hu1 hr) (pe_atv (pe_seeN (i := 1) rfl (.inl rfl) rfl rfl)) (e_kA pe_int fun _ => .int _) (fun _ _ => rfl))) pa_arNil rfl) rfl rfl rfl) (pa_arEx (c_tuple T.z_tuple rfl (pe_zv (e_zT (pe_compX (own := [("piece", 2)]) (put := (Tg.n 2).put) rfl rfl takes_cx rfl sc_read_refit.nd (i_seq (e_zT (pe_slM (e_zT (pe_rdz (i := 1) rfl (.inl rfl) rfl rfl)) (po_someM (e_zT (e_kT pe_int fun _ => .int _))) po_noneM))) (blkOk_by (N := ["words", "pieces", "piece"]) (sc := defScope s_read_refit) (by decide +kernel)) (fun _ _ _ _ _ _ => (pg_n (i := 2) sc_read_refit.nd rfl (.inl rfl) (.inr rfl) (show 2 ∉ others 3 [2] by decide))) (fun _ _ _ _ _ _ => pts_nilB) (fun _ _ _ _ _ _ _ tkB => (e_zT (c_own (tks := [none]) ((ok_numbers_of T 0).mono (show 0 + 2 ≤ n + 2 by omega)) hr rfl tkB (pa_arEx (pe_rdz (i := 2) rfl (.inl rfl) rfl rfl) pa_arNil rfl) rfl rfl rfl))) (fun _ => rfl) (put_length _)))) rfl) pa_arNil rfl) rfl) rfl))) pss_nilS)))
abbrev s_read_words : Stmt := topS 12
theorem sc_read_words : FnScope ["words", "word"] ["words"] (defScope s_read_words) := ⟨rfl, rfl, rfl, by decide +kernel, rfl, by decide +kernel, by decide +kernel⟩
def b_read_words : S := (sq (setS 1 (fzM (binA oIx (see (seeN 0)) (kA (.int 0))))) (sq (ifS (tsB (binA oEq (see (seeN 1)) (kA (.str "refit")))) (sq (retS (callM m_read_refit [none] (argEx (fzM (slM (zT (rdz 0)) (some (zT (kT (.int 1)))) none)) (M.ret [])))) RS.nx) RS.nx) (sq (ifS (tsB (binZ oIn (zT (rdz 1)) (zT (tupM (argEx (kT (.str "storm")) (argEx (kT (.str "find")) (M.ret []))))))) (sq (ifS (tsB (binA oLt (zT (un1 oLen (see (seeN 0)))) (kA (.int 2)))) (sq (RS.ex "BadText") RS.nx) RS.nx) (sq (retS (tupM (argEx (rdz 1) (argEx (callM m_numbers_of [none] (argEx (fzM (slM (zT (rdz 0)) (some (zT (kT (.int 1)))) none)) (M.ret []))) (M.ret []))))) RS.nx)) RS.nx) (sq (ifS (orB (tsB (binA (oNotInG "PLAIN" tab_PLAIN) (see (seeN 1)) (kA (.fn "PLAIN")))) (tsB (binZ oNe (zT (un1 oLen (see (seeN 0)))) (zT (binA oAdd (zT (binA (oIxG "PLAIN" tab_PLAIN) (see (kA (.fn "PLAIN"))) (seeN 1))) (kA (.int 1))))))) (sq (RS.ex "BadText") RS.nx) RS.nx) (sq (retS (binZ oAdd (zT (tupM (argEx (rdz 1) (M.ret [])))) (zT (callM m_numbers_of [none] (argEx (fzM (slM (zT (rdz 0)) (some (zT (kT (.int 1)))) none)) (M.ret [])))))) RS.nx)))))
def m_read_words : List T → R T := bodyR 1 [true] b_read_words
theorem ok_read_words (T : Tx K mg w) (n : Nat) : Callee P w K mg base (n + 4) "read_words" ["words"] m_read_words := callee_of (m := b_read_words) (ex := 1) (kp := [true]) (by decide) T.d_read_words sc_read_words rfl fun f cdv A outer s H E hr => (pss_consS (ps_setS (i := 1) (e_fzM (e_ixA (hu1 hr) (pe_atv (pe_seeN (i := 0) rfl (.inl rfl) rfl rfl)) (e_kA pe_int fun _ => .int _) (fun _ _ => rfl))) sc_read_words.nd rfl (.inl rfl) rfl (.inl rfl) (show 1 ∉ keptOf 0 [true] by decide)) (pss_consS (ps_ifS (t_cmpA (op_eqD (hu64 hr)) opEq (pe_atv (pe_seeN (i := 1) rfl (.inl rfl) rfl rfl)) (e_kA pe_str fun _ => .str _) (nomark _)) (pss_consS (ps_retS (c_own (tks := [none]) ((ok_read_refit T 0).mono (show 0 + 3 ≤ n + 3 by omega)) hr rfl takes_cx (pa_arEx (e_fzM (pe_slM (e_zT (pe_rdz (i := 0) rfl (.inl rfl) rfl rfl)) (po_someM (e_zT (e_kT pe_int fun _ => .int _))) po_noneM)) pa_arNil rfl) rfl rfl rfl)) pss_nilS) pss_nilS) (pss_consS (ps_ifS (t_cmpZ (op_inAll (hu65 hr)) opIn (e_zT (pe_rdz (i := 1) rfl (.inl rfl) rfl rfl)) (pe_zv (e_zT (pe_tupM (pa_arEx (e_kT pe_str fun _ => .str _) (pa_arEx (e_kT pe_str fun _ => .str _) pa_arNil rfl) rfl)))) rfl) (pss_consS (ps_ifS (t_cmpA (op_ltAll (hu64 hr)) opLt (pe_zv (e_zT (c_len T.z_len rfl (pe_atv (pe_seeN (i := 0) rfl (.inl rfl) rfl rfl)) rfl))) (e_kA pe_int fun _ => .int _) (nomark _)) (pss_consS (ps_raiseO T.e_BadText rfl takes_cx rfl rfl) pss_nilS) pss_nilS) (pss_consS (ps_retS (pe_tupM (pa_arEx (pe_rdz (i := 1) rfl (.inl rfl) rfl rfl) (pa_arEx (c_own (tks := [none]) ((ok_numbers_of T 0).mono (show 0 + 2 ≤ n + 3 by omega)) hr rfl takes_cx (pa_arEx (e_fzM (pe_slM (e_zT (pe_rdz (i := 0) rfl (.inl rfl) rfl rfl)) (po_someM (e_zT (e_kT pe_int fun _ => .int _))) po_noneM)) pa_arNil rfl) rfl rfl rfl) pa_arNil rfl) rfl))) pss_nilS)) pss_nilS) (pss_consS (ps_ifS (PW.pt (pw_orB (t_notInG T.k_PLAIN rfl rfl (pe_atv (pe_seeN (i := 1) rfl (.inl rfl) rfl rfl)) rfl) (w_or1 (t_cmpZ (op_neD (hu64 hr)) opNe (e_zT (c_len T.z_len rfl (pe_atv (pe_seeN (i := 0) rfl (.inl rfl) rfl rfl)) rfl)) (pe_zv (e_zT (e_binA op_addAll opAdd (pe_zv (e_zT (e_ixG T.k_PLAIN rfl rfl (pe_seeN (i := 1) rfl (.inl rfl) rfl rfl) (fun _ _ => rfl)))) (e_kA pe_int fun _ => .int _)))) (nomark _))))) (pss_consS (ps_raiseO T.e_BadText rfl takes_cx rfl rfl) pss_nilS) pss_nilS) (pss_consS (ps_retS (e_binZ op_addAll opAdd (e_zT (pe_tupM (pa_arEx (pe_rdz (i := 1) rfl (.inl rfl) rfl rfl) pa_arNil rfl))) (pe_zv (e_zT (c_own (tks := [none]) ((ok_numbers_of T 0).mono (show 0 + 2 ≤ n + 3 by omega)) hr rfl takes_cx (pa_arEx (e_fzM (pe_slM (e_zT (pe_rdz (i := 0) rfl (.inl rfl) rfl rfl)) (po_someM (e_zT (e_kT pe_int fun _ => .int _))) po_noneM)) pa_arNil rfl) rfl rfl rfl))))) pss_nilS)))))
abbrev s_read_fact : Stmt := topS 13
theorem sc_read_fact : FnScope ["text"] ["text"] (defScope s_read_fact) := ⟨rfl, rfl, rfl, by decide +kernel, rfl, by decide +kernel, by decide +kernel⟩
def b_read_fact : S := (sq (retS (callM m_read_words [none] (argEx (fzM (binZ oSplit (recvS (zT (rdz 0))) (see (kA (.str " "))))) (M.ret [])))) RS.nx)
def m_read_fact : List T → R T := bodyR 0 [true] b_read_fact
theorem ok_read_fact (T : Tx K mg w) (n : Nat) : Callee P w K mg base (n + 5) "read_fact" ["text"] m_read_fact := callee_of (m := b_read_fact) (ex := 0) (kp := [true]) (by decide) T.d_read_fact sc_read_fact rfl fun f cdv A outer s H E hr => (pss_consS (ps_retS (c_own (tks := [none]) ((ok_read_words T 0).mono (show 0 + 4 ≤ n + 4 by omega)) hr rfl takes_cx (pa_arEx (e_fzM (c_split (e_zT (pe_rdz (i := 0) rfl (.inl rfl) rfl rfl)) (pe_atv (e_kA pe_str fun _ => .str _)) rfl rfl rfl)) pa_arNil rfl) rfl rfl rfl)) pss_nilS)
abbrev s_law_told : Stmt := topS 32
theorem sc_law_told : FnScope ["_law_text", "_law_told_here", "e"] ["_law_text"] (defScope s_law_told) := ⟨rfl, rfl, rfl, by decide +kernel, rfl, by decide +kernel, by decide +kernel⟩
def b_law_told : S := (sq (setS 1 (kT .non)) (sq (tryF 2 cat_BadText (sq (setS 1 (fzM (callM m_read_fact [none] (argEx (rdz 0) (M.ret []))))) RS.nx) (fun ec => (sq (setS 1 (kT .non)) (sq (bySome (oOr (is_BadFact ec) (oOr (is_BadNumber ec) (oNot (is_ArgosyError ec)))) fun b => if b = true then (sq (setS 1 (fzM (tupM (argEx (kT (.str "wrong")) (M.ret []))))) RS.nx) else RS.nx) RS.nx)))) (sq (retS (rdz 1)) RS.nx)))
def m_law_told : List T → R T := bodyR 2 [true] b_law_told
theorem ok_law_told (T : Tx K mg w) (n : Nat) : Callee P w K mg base (n + 6) "_law_told" ["_law_text"] m_law_told := callee_of (m := b_law_told) (ex := 2) (kp := [true]) (by decide) T.d_law_told sc_law_told rfl fun f cdv A outer s H E hr => (pss_consS (ps_setS (i := 1) (e_kT pe_non fun _ => .non) sc_law_told.nd rfl (.inl rfl) rfl (.inl rfl) (show 1 ∉ keptOf 0 [true] by decide)) (pss_consS (ps_tryF (i := 2) rfl rfl sc_law_told.nd rfl rfl rfl rfl T.t_BadText (show 2 ∉ keptOf 0 [true] by decide) (fun _ _ _ tk hp => (pss_consS (ps_setS (i := 1) (e_fzM (c_own (tks := [none]) ((ok_read_fact T 0).mono (show 0 + 5 ≤ n + 5 by omega)) hr rfl tk (pa_arEx (pe_rdz (i := 0) rfl (.inl rfl) rfl rfl) pa_arNil rfl) rfl rfl rfl)) sc_law_told.nd rfl (.inl rfl) rfl (.inl rfl) (show 1 ∉ keptOf 0 [true] by decide)) pss_nilS)) (fun ec ea eo eC epn he hz hf => (pss_consX (i := 2) (by decide) (ps_X (ps_setS (i := 1) (e_kT pe_non fun _ => .non) sc_law_told.nd rfl (.inl rfl) rfl (.inl rfl) (show 1 ∉ 2 :: keptOf 0 [true] by decide))) (pss_consX (i := 2) (by decide) (ps_ifKE (kt_w (kw_or (kt_val (ke_is T.i_BadFact he hz hf T.z_isinstance rfl rfl rfl rfl (.inl rfl) rfl rfl) (fun _ => rfl)) (kw_or (kt_val (ke_is T.i_BadNumber he hz hf T.z_isinstance rfl rfl rfl rfl (.inl rfl) rfl rfl) (fun _ => rfl)) (kw_or1 (kt_not (kt_val (ke_is T.i_ArgosyError he hz hf T.z_isinstance rfl rfl rfl rfl (.inl rfl) rfl rfl) (fun _ => rfl))))))) (pss_consX (i := 2) (by decide) (ps_X (ps_setS (i := 1) (e_fzM (pe_tupM (pa_arEx (e_kT pe_str fun _ => .str _) pa_arNil rfl))) sc_law_told.nd rfl (.inl rfl) rfl (.inl rfl) (show 1 ∉ 2 :: keptOf 0 [true] by decide))) pss_nilX) pss_nilX) pss_nilX)))) (pss_consS (ps_retS (pe_rdz (i := 1) rfl (.inl rfl) rfl rfl)) pss_nilS)))
def l0_law_written : S := (sq (setS 1 (fzM (binZ oAdd (zT (binZ oAdd (zT (rdz 1)) (zT (lstM (argEx (kT (.str "/")) (M.ret [])))))) (zT (compM (itM itemsOf (zT (rdz 2))) [4] (Tg.n 4).put (M.ret true) (zT (un1 oStr (see (seeN 4))))))))) RS.nx)
abbrev s_law_written : Stmt := topS 26
theorem sc_law_written : FnScope ["_law_fact", "_law_words", "_law_timbers", "_law_name", "_law_timber", "_law_thing"] ["_law_fact"] (defScope s_law_written) := ⟨rfl, rfl, rfl, by decide +kernel, rfl, by decide +kernel, by decide +kernel⟩
def b_law_written : S := (sq (setS 1 (fzM (lstM (argEx (binA oIx (see (seeN 0)) (kA (.int 0))) (M.ret []))))) (sq (ifS (tsB (binA oEq (zT (binA oIx (see (seeN 0)) (kA (.int 0)))) (kA (.str "refit")))) (sq (setS 1 (fzM (binZ oAdd (zT (rdz 1)) (zT (compM (itM itemsOf (zT (binA oIx (see (seeN 0)) (kA (.int 1))))) [3] (Tg.n 3).put (M.ret true) (zT (un1 oStr (see (seeN 3))))))))) (sq (forS (itM itemsOf (zT (binA oIx (see (seeN 0)) (kA (.int 2))))) (Tg.n 2).put l0_law_written) RS.nx)) (sq (ifS (tsB (binZ oIn (zT (binA oIx (see (seeN 0)) (kA (.int 0)))) (zT (tupM (argEx (kT (.str "storm")) (argEx (kT (.str "find")) (M.ret []))))))) (sq (setS 1 (fzM (binZ oAdd (zT (rdz 1)) (zT (compM (itM itemsOf (zT (binA oIx (see (seeN 0)) (kA (.int 1))))) [4] (Tg.n 4).put (M.ret true) (zT (un1 oStr (see (seeN 4))))))))) RS.nx) (sq (setS 1 (fzM (binZ oAdd (zT (rdz 1)) (zT (compM (itM itemsOf (zT (slM (zT (rdz 0)) (some (zT (kT (.int 1)))) none))) [5] (Tg.n 5).put (M.ret true) (zT (un1 oStr (see (seeN 5))))))))) RS.nx)) RS.nx)) (sq (retS (binZ oJoin (recvS (zT (kT (.str " ")))) (see (seeN 1)))) RS.nx)))
def m_law_written : List T → R T := bodyR 5 [true] b_law_written
theorem ok_law_written (T : Tx K mg w) (n : Nat) : Callee P w K mg base (n + 1) "_law_written" ["_law_fact"] m_law_written := callee_of (m := b_law_written) (ex := 5) (kp := [true]) (by decide) T.d_law_written sc_law_written rfl fun f cdv A outer s H E hr => (pss_consS (ps_setS (i := 1) (e_fzM (pe_lstM (pa_arEx (e_ixA (hu1 hr) (pe_atv (pe_seeN (i := 0) rfl (.inl rfl) rfl rfl)) (e_kA pe_int fun _ => .int _) (fun _ _ => rfl)) pa_arNil rfl))) sc_law_written.nd rfl (.inl rfl) rfl (.inl rfl) (show 1 ∉ keptOf 0 [true] by decide)) (pss_consS (ps_ifS (t_cmpA (op_eqD (hu64 hr)) opEq (pe_zv (e_zT (e_ixA (hu1 hr) (pe_atv (pe_seeN (i := 0) rfl (.inl rfl) rfl rfl)) (e_kA pe_int fun _ => .int _) (fun _ _ => rfl)))) (e_kA pe_str fun _ => .str _) (nomark _)) (pss_consS (ps_setS (i := 1) (e_fzM (e_binZ op_addAll opAdd (e_zT (pe_rdz (i := 1) rfl (.inl rfl) rfl rfl)) (pe_zv (e_zT (pe_compM (own := [("_law_name", 3)]) (put := (Tg.n 3).put) rfl sc_law_written.nd (i_seq (e_zT (e_ixA (hu1 hr) (pe_atv (pe_seeN (i := 0) rfl (.inl rfl) rfl rfl)) (e_kA pe_int fun _ => .int _) (fun _ _ => rfl)))) (blkOk_by (N := ["_law_fact", "_law_words", "_law_timbers", "_law_name", "_law_timber", "_law_thing"]) (sc := defScope s_law_written) (by decide +kernel)) (fun _ _ _ _ _ => (pg_n (i := 3) sc_law_written.nd rfl (.inl rfl) (.inr rfl) (show 3 ∉ others 6 [3] by decide))) (fun _ _ _ _ _ => pts_nilB) (fun _ _ _ _ _ => (e_zT (c_str T.z_str rfl (pe_atv (pe_seeN (i := 3) rfl (.inl rfl) rfl rfl)) rfl))) (fun _ => rfl) (put_length _)))))) sc_law_written.nd rfl (.inl rfl) rfl (.inl rfl) (show 1 ∉ keptOf 0 [true] by decide)) (pss_consS (ps_forS passes_cx rfl (i_seq (e_zT (e_ixA (hu1 hr) (pe_atv (pe_seeN (i := 0) rfl (.inl rfl) rfl rfl)) (e_kA pe_int fun _ => .int _) (fun _ _ => rfl)))) (pg_n (i := 2) sc_law_written.nd rfl (.inl rfl) (.inl rfl) (show 2 ∉ keptOf 0 [true] by decide)) (pss_consS (ps_setS (i := 1) (e_fzM (e_binZ op_addAll opAdd (e_zT (e_binZ op_addAll opAdd (e_zT (pe_rdz (i := 1) rfl (.inl rfl) rfl rfl)) (pe_zv (e_zT (pe_lstM (pa_arEx (e_kT pe_str fun _ => .str _) pa_arNil rfl)))))) (pe_zv (e_zT (pe_compM (own := [("_law_timber", 4)]) (put := (Tg.n 4).put) rfl sc_law_written.nd (i_seq (e_zT (pe_rdz (i := 2) rfl (.inl rfl) rfl rfl))) (blkOk_by (N := ["_law_fact", "_law_words", "_law_timbers", "_law_name", "_law_timber", "_law_thing"]) (sc := defScope s_law_written) (by decide +kernel)) (fun _ _ _ _ _ => (pg_n (i := 4) sc_law_written.nd rfl (.inl rfl) (.inr rfl) (show 4 ∉ others 6 [4] by decide))) (fun _ _ _ _ _ => pts_nilB) (fun _ _ _ _ _ => (e_zT (c_str T.z_str rfl (pe_atv (pe_seeN (i := 4) rfl (.inl rfl) rfl rfl)) rfl))) (fun _ => rfl) (put_length _)))))) sc_law_written.nd rfl (.inl rfl) rfl (.inl rfl) (show 1 ∉ keptOf 0 [true] by decide)) pss_nilS) (fun _ => rfl)) pss_nilS)) (pss_consS (ps_ifS (t_cmpZ (op_inAll (hu65 hr)) opIn (e_zT (e_ixA (hu1 hr) (pe_atv (pe_seeN (i := 0) rfl (.inl rfl) rfl rfl)) (e_kA pe_int fun _ => .int _) (fun _ _ => rfl))) (pe_zv (e_zT (pe_tupM (pa_arEx (e_kT pe_str fun _ => .str _) (pa_arEx (e_kT pe_str fun _ => .str _) pa_arNil rfl) rfl)))) rfl) (pss_consS (ps_setS (i := 1) (e_fzM (e_binZ op_addAll opAdd (e_zT (pe_rdz (i := 1) rfl (.inl rfl) rfl rfl)) (pe_zv (e_zT (pe_compM (own := [("_law_timber", 4)]) (put := (Tg.n 4).put) rfl sc_law_written.nd (i_seq (e_zT (e_ixA (hu1 hr) (pe_atv (pe_seeN (i := 0) rfl (.inl rfl) rfl rfl)) (e_kA pe_int fun _ => .int _) (fun _ _ => rfl)))) (blkOk_by (N := ["_law_fact", "_law_words", "_law_timbers", "_law_name", "_law_timber", "_law_thing"]) (sc := defScope s_law_written) (by decide +kernel)) (fun _ _ _ _ _ => (pg_n (i := 4) sc_law_written.nd rfl (.inl rfl) (.inr rfl) (show 4 ∉ others 6 [4] by decide))) (fun _ _ _ _ _ => pts_nilB) (fun _ _ _ _ _ => (e_zT (c_str T.z_str rfl (pe_atv (pe_seeN (i := 4) rfl (.inl rfl) rfl rfl)) rfl))) (fun _ => rfl) (put_length _)))))) sc_law_written.nd rfl (.inl rfl) rfl (.inl rfl) (show 1 ∉ keptOf 0 [true] by decide)) pss_nilS) (pss_consS (ps_setS (i := 1) (e_fzM (e_binZ op_addAll opAdd (e_zT (pe_rdz (i := 1) rfl (.inl rfl) rfl rfl)) (pe_zv (e_zT (pe_compM (own := [("_law_thing", 5)]) (put := (Tg.n 5).put) rfl sc_law_written.nd (i_seq (e_zT (pe_slM (e_zT (pe_rdz (i := 0) rfl (.inl rfl) rfl rfl)) (po_someM (e_zT (e_kT pe_int fun _ => .int _))) po_noneM))) (blkOk_by (N := ["_law_fact", "_law_words", "_law_timbers", "_law_name", "_law_timber", "_law_thing"]) (sc := defScope s_law_written) (by decide +kernel)) (fun _ _ _ _ _ => (pg_n (i := 5) sc_law_written.nd rfl (.inl rfl) (.inr rfl) (show 5 ∉ others 6 [5] by decide))) (fun _ _ _ _ _ => pts_nilB) (fun _ _ _ _ _ => (e_zT (c_str T.z_str rfl (pe_atv (pe_seeN (i := 5) rfl (.inl rfl) rfl rfl)) rfl))) (fun _ => rfl) (put_length _)))))) sc_law_written.nd rfl (.inl rfl) rfl (.inl rfl) (show 1 ∉ keptOf 0 [true] by decide)) pss_nilS)) pss_nilS)) (pss_consS (ps_retS (c_join (e_zT (e_kT pe_str fun _ => .str _)) (pe_atv (pe_seeN (i := 1) rfl (.inl rfl) rfl rfl)) rfl rfl rfl)) pss_nilS)))
def q11_law : S := (retS (callM (m_law_same 6) [none, none] (argEx (fzM (callM m_law_told [none] (argEx (rdz 6) (M.ret [])))) (argEx (fzM (callM m_law_read [none] (argEx (fzM (binZ oSplit (recvS (zT (rdz 6))) (see (kA (.str " "))))) (M.ret [])))) (M.ret [])))))
def l0_law : S := (sq (setS 6 (fzM (callM m_law_bent_text [some 1, none] (argTk 1 (argEx (rdz 6) (M.ret [])))))) RS.nx)
def q10_law : S := (forS (itM rng1 (see (seeN 4))) (Tg.n 7).put l0_law)
def q9_law : S := (ifS (tsB (binA oEq (see (seeN 3)) (kA (.int 0)))) (sq (setS 6 (fzM (binZ oIx (zT (rdz 2)) (zT (callM m_law_take [some 1, none] (argTk 1 (argEx (fzM (un1 oLen (see (seeN 2)))) (M.ret [])))))))) RS.nx) RS.nx)
def q8_law : S := (setS 6 (fzM (callM m_law_written [none] (argEx (rdz 5) (M.ret [])))))
def q7_law : S := (ifS (tsB (binA oEq (zT (callM m_law_take [some 1, none] (argTk 1 (argEx (kT (.int 3)) (M.ret []))))) (kA (.int 0)))) (sq (setS 5 (fzM (callM m_law_loose_fact [some 1, none] (argTk 1 (argEx (kT (.bl false)) (M.ret [])))))) RS.nx) RS.nx)
def q6_law : S := (setS 5 (fzM (callM m_law_sound_fact [some 1, none] (argTk 1 (argEx (fzM (callM m_law_slip [some 1] (argTk 1 (M.ret [])))) (M.ret []))))))
def q5_law : S := (setS 4 (fzM (binZ oIx (zT (tupM (argEx (kT (.int 0)) (argEx (kT (.int 1)) (argEx (kT (.int 1)) (argEx (kT (.int 1)) (argEx (kT (.int 2)) (argEx (kT (.int 1)) (M.ret []))))))))) (zT (callM m_law_take [some 1, none] (argTk 1 (argEx (kT (.int 6)) (M.ret []))))))))
def q4_law : S := (setS 3 (callM m_law_take [some 1, none] (argTk 1 (argEx (kT (.int 8)) (M.ret [])))))
def q3_law : S := (setS 2 (fzM (binZ oAdd (zT (rdz 2)) (zT (lstM (argEx (kT (.str "fell -3")) (argEx (kT (.str "storm 1 / 2")) (argEx (kT (.str "fell /")) (argEx (kT (.str "clear 4 ")) (argEx (kT (.str "pay 10 2 3")) (argEx (kT (.str "refit 1  / 2")) (M.ret []))))))))))))
def q2_law : S := (setS 2 (fzM (binZ oAdd (zT (rdz 2)) (zT (lstM (argEx (kT (.str "storm")) (argEx (kT (.str "find ")) (argEx (kT (.str "fell")) (argEx (kT (.str "fell 1 2")) (argEx (kT (.str "lend 10")) (argEx (kT (.str "Fell 3")) (argEx (kT (.str "fells 3")) (argEx (kT (.str "fell 03")) (argEx (kT (.str " fell 3")) (argEx (kT (.str "fell  3")) (M.ret []))))))))))))))))
def q1_law : S := (setS 2 (fzM (lstM (argEx (kT (.str "")) (argEx (kT (.str " ")) (argEx (kT (.str "refit")) (argEx (kT (.str "refit ")) (argEx (kT (.str "refit /")) (argEx (kT (.str "refit / /")) (argEx (kT (.str "refit 1 /")) (argEx (kT (.str "refit / 1 /")) (argEx (kT (.str "refit 1 / 2")) (argEx (kT (.str "refit /1")) (M.ret []))))))))))))))
def q0_law : S := (setS 1 (callM m_law_begin [none] (argEx (rdz 0) (M.ret []))))
abbrev s_law : Stmt := topS 33
theorem sc_law : FnScope ["_law_script", "_law_draw", "_law_odd", "_law_way", "_law_bends", "_law_fact", "_law_text", "_law_k"] ["_law_script"] (defScope s_law) := ⟨rfl, rfl, rfl, by decide +kernel, rfl, by decide +kernel, by decide +kernel⟩
def b_law : S := (sq q0_law (sq q1_law (sq q2_law (sq q3_law (sq q4_law (sq q5_law (sq q6_law (sq q7_law (sq q8_law (sq q9_law (sq q10_law (sq q11_law RS.nx))))))))))))
def m_law : List T → R T := bodyR 7 [true] b_law
theorem pr_law (T : Tx K mg w) (n : Nat) (f : Addr) (cdv : Value) (A : Around) (outer : List Env) (s : Shared) (H : Hp) (E : XK) (hr : Room (n + 7) (A.deeper (envOfC "law" (defScope s_law) s.heap.objs.size f cdv))) : PSs (cxOf (L2.CX P w) P w K mg base ["_law_script", "_law_draw", "_law_odd", "_law_way", "_law_bends", "_law_fact", "_law_text", "_law_k"] "law" (defScope s_law) f cdv A outer s H E) (defBody s_law) (tS ⟨K, mg, P, w⟩ (fun c d _ H => E c d H) (keptOf 0 [true]) b_law) := (pss_consS (ps_setS (i := 1) (c_own (tks := [none]) ((ok_law_begin T 0).mono (show 0 + 1 ≤ n + 7 by omega)) hr rfl takes_cx (pa_arEx (pe_rdz (i := 0) rfl (.inl rfl) rfl rfl) pa_arNil rfl) rfl rfl rfl) sc_law.nd rfl (.inl rfl) rfl (.inl rfl) (show 1 ∉ keptOf 0 [true] by decide)) (pss_consS (ps_setS (i := 2) (e_fzM (pe_lstM (pa_arEx (e_kT pe_str fun _ => .str _) (pa_arEx (e_kT pe_str fun _ => .str _) (pa_arEx (e_kT pe_str fun _ => .str _) (pa_arEx (e_kT pe_str fun _ => .str _) (pa_arEx (e_kT pe_str fun _ => .str _) (pa_arEx (e_kT pe_str fun _ => .str _) (pa_arEx (e_kT pe_str fun _ => .str _) (pa_arEx (e_kT pe_str fun _ => .str _) (pa_arEx (e_kT pe_str fun _ => .str _) (pa_arEx (e_kT pe_str fun _ => .str _) pa_arNil rfl) rfl) rfl) rfl) rfl) rfl) rfl) rfl) rfl) rfl))) sc_law.nd rfl (.inl rfl) rfl (.inl rfl) (show 2 ∉ keptOf 0 [true] by decide)) (pss_consS (ps_setS (i := 2) (e_fzM (e_binZ op_addAll opAdd (e_zT (pe_rdz (i := 2) rfl (.inl rfl) rfl rfl)) (pe_zv (e_zT (pe_lstM (pa_arEx (e_kT pe_str fun _ => .str _) (pa_arEx (e_kT pe_str fun _ => .str _) (pa_arEx (e_kT pe_str fun _ => .str _) (pa_arEx (e_kT pe_str fun _ => .str _) (pa_arEx (e_kT pe_str fun _ => .str _) (pa_arEx (e_kT pe_str fun _ => .str _) (pa_arEx (e_kT pe_str fun _ => .str _) (pa_arEx (e_kT pe_str fun _ => .str _) (pa_arEx (e_kT pe_str fun _ => .str _) (pa_arEx (e_kT pe_str fun _ => .str _) pa_arNil rfl) rfl) rfl) rfl) rfl) rfl) rfl) rfl) rfl) rfl)))))) sc_law.nd rfl (.inl rfl) rfl (.inl rfl) (show 2 ∉ keptOf 0 [true] by decide)) (pss_consS (ps_setS (i := 2) (e_fzM (e_binZ op_addAll opAdd (e_zT (pe_rdz (i := 2) rfl (.inl rfl) rfl rfl)) (pe_zv (e_zT (pe_lstM (pa_arEx (e_kT pe_str fun _ => .str _) (pa_arEx (e_kT pe_str fun _ => .str _) (pa_arEx (e_kT pe_str fun _ => .str _) (pa_arEx (e_kT pe_str fun _ => .str _) (pa_arEx (e_kT pe_str fun _ => .str _) (pa_arEx (e_kT pe_str fun _ => .str _) pa_arNil rfl) rfl) rfl) rfl) rfl) rfl)))))) sc_law.nd rfl (.inl rfl) rfl (.inl rfl) (show 2 ∉ keptOf 0 [true] by decide)) (pss_consS (ps_setS (i := 3) (c_own (tks := [some 1, none]) ((ok_law_take T 0).mono (show 0 + 1 ≤ n + 7 by omega)) hr rfl takes_cx (pa_arTk (i := 1) rfl (.inl rfl) rfl rfl (pa_arEx (e_kT pe_int fun _ => .int _) pa_arNil rfl)) rfl rfl rfl) sc_law.nd rfl (.inl rfl) rfl (.inl rfl) (show 3 ∉ keptOf 0 [true] by decide)) (pss_consS (ps_setS (i := 4) (e_fzM (e_ixZ (hu1 hr) (e_zT (pe_tupM (pa_arEx (e_kT pe_int fun _ => .int _) (pa_arEx (e_kT pe_int fun _ => .int _) (pa_arEx (e_kT pe_int fun _ => .int _) (pa_arEx (e_kT pe_int fun _ => .int _) (pa_arEx (e_kT pe_int fun _ => .int _) (pa_arEx (e_kT pe_int fun _ => .int _) pa_arNil rfl) rfl) rfl) rfl) rfl) rfl))) (pe_zv (e_zT (c_own (tks := [some 1, none]) ((ok_law_take T 0).mono (show 0 + 1 ≤ n + 7 by omega)) hr rfl takes_cx (pa_arTk (i := 1) rfl (.inl rfl) rfl rfl (pa_arEx (e_kT pe_int fun _ => .int _) pa_arNil rfl)) rfl rfl rfl))) (fun _ _ => rfl))) sc_law.nd rfl (.inl rfl) rfl (.inl rfl) (show 4 ∉ keptOf 0 [true] by decide)) (pss_consS (ps_setS (i := 5) (e_fzM (c_own (tks := [some 1, none]) ((ok_law_sound_fact T 0).mono (show 0 + 4 ≤ n + 7 by omega)) hr rfl takes_cx (pa_arTk (i := 1) rfl (.inl rfl) rfl rfl (pa_arEx (e_fzM (c_own (tks := [some 1]) ((ok_law_slip T 0).mono (show 0 + 2 ≤ n + 7 by omega)) hr rfl takes_cx (pa_arTk (i := 1) rfl (.inl rfl) rfl rfl pa_arNil) rfl rfl rfl)) pa_arNil rfl)) rfl rfl rfl)) sc_law.nd rfl (.inl rfl) rfl (.inl rfl) (show 5 ∉ keptOf 0 [true] by decide)) (pss_consS (ps_ifS (t_cmpA (op_eqD (hu64 hr)) opEq (pe_zv (e_zT (c_own (tks := [some 1, none]) ((ok_law_take T 0).mono (show 0 + 1 ≤ n + 7 by omega)) hr rfl takes_cx (pa_arTk (i := 1) rfl (.inl rfl) rfl rfl (pa_arEx (e_kT pe_int fun _ => .int _) pa_arNil rfl)) rfl rfl rfl))) (e_kA pe_int fun _ => .int _) (nomark _)) (pss_consS (ps_setS (i := 5) (e_fzM (c_own (tks := [some 1, none]) ((ok_law_loose_fact T 0).mono (show 0 + 3 ≤ n + 7 by omega)) hr rfl takes_cx (pa_arTk (i := 1) rfl (.inl rfl) rfl rfl (pa_arEx (e_kT pe_bl fun _ => .bl _) pa_arNil rfl)) rfl rfl rfl)) sc_law.nd rfl (.inl rfl) rfl (.inl rfl) (show 5 ∉ keptOf 0 [true] by decide)) pss_nilS) pss_nilS) (pss_consS (ps_setS (i := 6) (e_fzM (c_own (tks := [none]) ((ok_law_written T 0).mono (show 0 + 1 ≤ n + 7 by omega)) hr rfl takes_cx (pa_arEx (pe_rdz (i := 5) rfl (.inl rfl) rfl rfl) pa_arNil rfl) rfl rfl rfl)) sc_law.nd rfl (.inl rfl) rfl (.inl rfl) (show 6 ∉ keptOf 0 [true] by decide)) (pss_consS (ps_ifS (t_cmpA (op_eqD (hu64 hr)) opEq (pe_atv (pe_seeN (i := 3) rfl (.inl rfl) rfl rfl)) (e_kA pe_int fun _ => .int _) (nomark _)) (pss_consS (ps_setS (i := 6) (e_fzM (e_ixZ (hu1 hr) (e_zT (pe_rdz (i := 2) rfl (.inl rfl) rfl rfl)) (pe_zv (e_zT (c_own (tks := [some 1, none]) ((ok_law_take T 0).mono (show 0 + 1 ≤ n + 7 by omega)) hr rfl takes_cx (pa_arTk (i := 1) rfl (.inl rfl) rfl rfl (pa_arEx (e_fzM (c_len T.z_len rfl (pe_atv (pe_seeN (i := 2) rfl (.inl rfl) rfl rfl)) rfl)) pa_arNil rfl)) rfl rfl rfl))) (fun _ _ => rfl))) sc_law.nd rfl (.inl rfl) rfl (.inl rfl) (show 6 ∉ keptOf 0 [true] by decide)) pss_nilS) pss_nilS) (pss_consS (ps_forS passes_cx rfl (i_rng1 T.z_range rfl (pe_atv (pe_seeN (i := 4) rfl (.inl rfl) rfl rfl)) rfl) (pg_n (i := 7) sc_law.nd rfl (.inl rfl) (.inl rfl) (show 7 ∉ keptOf 0 [true] by decide)) (pss_consS (ps_setS (i := 6) (e_fzM (c_own (tks := [some 1, none]) ((ok_law_bent_text T 0).mono (show 0 + 2 ≤ n + 7 by omega)) hr rfl takes_cx (pa_arTk (i := 1) rfl (.inl rfl) rfl rfl (pa_arEx (pe_rdz (i := 6) rfl (.inl rfl) rfl rfl) pa_arNil rfl)) rfl rfl rfl)) sc_law.nd rfl (.inl rfl) rfl (.inl rfl) (show 6 ∉ keptOf 0 [true] by decide)) pss_nilS) (fun _ => rfl)) (pss_consS (ps_retS (c_own (tks := [none, none]) ((ok_law_same T 6).mono (show 6 + 1 ≤ n + 7 by omega)) hr rfl takes_cx (pa_arEx (e_fzM (c_own (tks := [none]) ((ok_law_told T 0).mono (show 0 + 6 ≤ n + 7 by omega)) hr rfl takes_cx (pa_arEx (pe_rdz (i := 6) rfl (.inl rfl) rfl rfl) pa_arNil rfl) rfl rfl rfl)) (pa_arEx (e_fzM (c_own (tks := [none]) ((ok_law_read T 0).mono (show 0 + 4 ≤ n + 7 by omega)) hr rfl takes_cx (pa_arEx (e_fzM (c_split (e_zT (pe_rdz (i := 6) rfl (.inl rfl) rfl rfl)) (pe_atv (e_kA pe_str fun _ => .str _)) rfl rfl rfl)) pa_arNil rfl) rfl rfl rfl)) pa_arNil rfl) rfl) rfl rfl rfl)) pss_nilS))))))))))))
def LawTrue : Prop := ∀ ns : List Int, ns.length ≤ 63 → ∃ fins, m_law [.z (.scr ns)] = .ok (.z (.bl true)) fins
end
theorem all_mk {l : PySem.W.OpenLaw} {w : World} {K : PySem.W.Frag} {h : Heap} {mg : Str → Option Value} {fa : Addr} (law_true : LawTrue) (X : K.In h) (G : h.Ns mainGlobals mg) (hfa : mg "law" = some (.ref fa))
    {f0 : Addr} {od0 an0 : Option Addr} {sl0 : Array (Option Value)} {oc0 kV0 dc0 pm0 cd0 ct0 : Value} (a0 : PySem.W.nsIn K mainGlobals "_law_begin" = some (some (.ref f0))) (l0 : K.lookup f0 = some ⟨oc0, od0, .func (PySem.W.fnOf "_law_begin" "_law_begin" (defArgs (topS 15)) (defBody (topS 15)) (defScope (topS 15)) .none kV0 dc0 pm0 an0 cd0 ct0), sl0⟩) (c0 : PySem.W.codeIn K cd0 "_law_begin" = true) (k0 : PySem.W.keepIn K (.ref f0) = true)
    {f1 : Addr} {od1 an1 : Option Addr} {sl1 : Array (Option Value)} {oc1 kV1 dc1 pm1 cd1 ct1 : Value} (a1 : PySem.W.nsIn K mainGlobals "_law_take" = some (some (.ref f1))) (l1 : K.lookup f1 = some ⟨oc1, od1, .func (PySem.W.fnOf "_law_take" "_law_take" (defArgs (topS 16)) (defBody (topS 16)) (defScope (topS 16)) .none kV1 dc1 pm1 an1 cd1 ct1), sl1⟩) (c1 : PySem.W.codeIn K cd1 "_law_take" = true) (k1 : PySem.W.keepIn K (.ref f1) = true)
    {f2 : Addr} {od2 an2 : Option Addr} {sl2 : Array (Option Value)} {oc2 kV2 dc2 pm2 cd2 ct2 : Value} (a2 : PySem.W.nsIn K mainGlobals "_law_bent_text" = some (some (.ref f2))) (l2 : K.lookup f2 = some ⟨oc2, od2, .func (PySem.W.fnOf "_law_bent_text" "_law_bent_text" (defArgs (topS 30)) (defBody (topS 30)) (defScope (topS 30)) .none kV2 dc2 pm2 an2 cd2 ct2), sl2⟩) (c2 : PySem.W.codeIn K cd2 "_law_bent_text" = true) (k2 : PySem.W.keepIn K (.ref f2) = true)
    {f3 : Addr} {od3 an3 : Option Addr} {sl3 : Array (Option Value)} {oc3 kV3 dc3 pm3 cd3 ct3 : Value} (a3 : PySem.W.nsIn K mainGlobals "_law_any_number" = some (some (.ref f3))) (l3 : K.lookup f3 = some ⟨oc3, od3, .func (PySem.W.fnOf "_law_any_number" "_law_any_number" (defArgs (topS 31)) (defBody (topS 31)) (defScope (topS 31)) .none kV3 dc3 pm3 an3 cd3 ct3), sl3⟩) (c3 : PySem.W.codeIn K cd3 "_law_any_number" = true) (k3 : PySem.W.keepIn K (.ref f3) = true)
    {f4 : Addr} {od4 an4 : Option Addr} {sl4 : Array (Option Value)} {oc4 kV4 dc4 pm4 cd4 ct4 : Value} (a4 : PySem.W.nsIn K mainGlobals "_law_loose_fact" = some (some (.ref f4))) (l4 : K.lookup f4 = some ⟨oc4, od4, .func (PySem.W.fnOf "_law_loose_fact" "_law_loose_fact" (defArgs (topS 29)) (defBody (topS 29)) (defScope (topS 29)) .none kV4 dc4 pm4 an4 cd4 ct4), sl4⟩) (c4 : PySem.W.codeIn K cd4 "_law_loose_fact" = true) (k4 : PySem.W.keepIn K (.ref f4) = true)
    {f5 : Addr} {od5 an5 : Option Addr} {sl5 : Array (Option Value)} {oc5 kV5 dc5 pm5 cd5 ct5 : Value} (a5 : PySem.W.nsIn K mainGlobals "_law_number" = some (some (.ref f5))) (l5 : K.lookup f5 = some ⟨oc5, od5, .func (PySem.W.fnOf "_law_number" "_law_number" (defArgs (topS 24)) (defBody (topS 24)) (defScope (topS 24)) .none kV5 dc5 pm5 an5 cd5 ct5), sl5⟩) (c5 : PySem.W.codeIn K cd5 "_law_number" = true) (k5 : PySem.W.keepIn K (.ref f5) = true)
    {f6 : Addr} {od6 an6 : Option Addr} {sl6 : Array (Option Value)} {oc6 kV6 dc6 pm6 cd6 ct6 : Value} (a6 : PySem.W.nsIn K mainGlobals "_law_numbers" = some (some (.ref f6))) (l6 : K.lookup f6 = some ⟨oc6, od6, .func (PySem.W.fnOf "_law_numbers" "_law_numbers" (defArgs (topS 25)) (defBody (topS 25)) (defScope (topS 25)) .none kV6 dc6 pm6 an6 cd6 ct6), sl6⟩) (c6 : PySem.W.codeIn K cd6 "_law_numbers" = true) (k6 : PySem.W.keepIn K (.ref f6) = true)
    {f7 : Addr} {od7 an7 : Option Addr} {sl7 : Array (Option Value)} {oc7 kV7 dc7 pm7 cd7 ct7 : Value} (a7 : PySem.W.nsIn K mainGlobals "_law_read_refit" = some (some (.ref f7))) (l7 : K.lookup f7 = some ⟨oc7, od7, .func (PySem.W.fnOf "_law_read_refit" "_law_read_refit" (defArgs (topS 27)) (defBody (topS 27)) (defScope (topS 27)) .none kV7 dc7 pm7 an7 cd7 ct7), sl7⟩) (c7 : PySem.W.codeIn K cd7 "_law_read_refit" = true) (k7 : PySem.W.keepIn K (.ref f7) = true)
    {f8 : Addr} {od8 an8 : Option Addr} {sl8 : Array (Option Value)} {oc8 kV8 dc8 pm8 cd8 ct8 : Value} (a8 : PySem.W.nsIn K mainGlobals "_law_read" = some (some (.ref f8))) (l8 : K.lookup f8 = some ⟨oc8, od8, .func (PySem.W.fnOf "_law_read" "_law_read" (defArgs (topS 28)) (defBody (topS 28)) (defScope (topS 28)) .none kV8 dc8 pm8 an8 cd8 ct8), sl8⟩) (c8 : PySem.W.codeIn K cd8 "_law_read" = true) (k8 : PySem.W.keepIn K (.ref f8) = true)
    {f9 : Addr} {od9 an9 : Option Addr} {sl9 : Array (Option Value)} {oc9 kV9 dc9 pm9 cd9 ct9 : Value} (a9 : PySem.W.nsIn K mainGlobals "_law_same" = some (some (.ref f9))) (l9 : K.lookup f9 = some ⟨oc9, od9, .func (PySem.W.fnOf "_law_same" "_law_same" (defArgs (topS 17)) (defBody (topS 17)) (defScope (topS 17)) .none kV9 dc9 pm9 an9 cd9 ct9), sl9⟩) (c9 : PySem.W.codeIn K cd9 "_law_same" = true) (k9 : PySem.W.keepIn K (.ref f9) = true)
    {f10 : Addr} {od10 an10 : Option Addr} {sl10 : Array (Option Value)} {oc10 kV10 dc10 pm10 cd10 ct10 : Value} (a10 : PySem.W.nsIn K mainGlobals "_law_slip" = some (some (.ref f10))) (l10 : K.lookup f10 = some ⟨oc10, od10, .func (PySem.W.fnOf "_law_slip" "_law_slip" (defArgs (topS 20)) (defBody (topS 20)) (defScope (topS 20)) .none kV10 dc10 pm10 an10 cd10 ct10), sl10⟩) (c10 : PySem.W.codeIn K cd10 "_law_slip" = true) (k10 : PySem.W.keepIn K (.ref f10) = true)
    {f11 : Addr} {od11 an11 : Option Addr} {sl11 : Array (Option Value)} {oc11 kV11 dc11 pm11 cd11 ct11 : Value} (a11 : PySem.W.nsIn K mainGlobals "_law_some" = some (some (.ref f11))) (l11 : K.lookup f11 = some ⟨oc11, od11, .func (PySem.W.fnOf "_law_some" "_law_some" (defArgs (topS 19)) (defBody (topS 19)) (defScope (topS 19)) .none kV11 dc11 pm11 an11 cd11 ct11), sl11⟩) (c11 : PySem.W.codeIn K cd11 "_law_some" = true) (k11 : PySem.W.keepIn K (.ref f11) = true)
    {f12 : Addr} {od12 an12 : Option Addr} {sl12 : Array (Option Value)} {oc12 kV12 dc12 pm12 cd12 ct12 : Value} (a12 : PySem.W.nsIn K mainGlobals "_law_any_timbers" = some (some (.ref f12))) (l12 : K.lookup f12 = some ⟨oc12, od12, .func (PySem.W.fnOf "_law_any_timbers" "_law_any_timbers" (defArgs (topS 21)) (defBody (topS 21)) (defScope (topS 21)) .none kV12 dc12 pm12 an12 cd12 ct12), sl12⟩) (c12 : PySem.W.codeIn K cd12 "_law_any_timbers" = true) (k12 : PySem.W.keepIn K (.ref f12) = true)
    {f13 : Addr} {od13 an13 : Option Addr} {sl13 : Array (Option Value)} {oc13 kV13 dc13 pm13 cd13 ct13 : Value} (a13 : PySem.W.nsIn K mainGlobals "_law_set" = some (some (.ref f13))) (l13 : K.lookup f13 = some ⟨oc13, od13, .func (PySem.W.fnOf "_law_set" "_law_set" (defArgs (topS 18)) (defBody (topS 18)) (defScope (topS 18)) .none kV13 dc13 pm13 an13 cd13 ct13), sl13⟩) (c13 : PySem.W.codeIn K cd13 "_law_set" = true) (k13 : PySem.W.keepIn K (.ref f13) = true)
    {f14 : Addr} {od14 an14 : Option Addr} {sl14 : Array (Option Value)} {oc14 kV14 dc14 pm14 cd14 ct14 : Value} (a14 : PySem.W.nsIn K mainGlobals "_law_sound_refit" = some (some (.ref f14))) (l14 : K.lookup f14 = some ⟨oc14, od14, .func (PySem.W.fnOf "_law_sound_refit" "_law_sound_refit" (defArgs (topS 22)) (defBody (topS 22)) (defScope (topS 22)) .none kV14 dc14 pm14 an14 cd14 ct14), sl14⟩) (c14 : PySem.W.codeIn K cd14 "_law_sound_refit" = true) (k14 : PySem.W.keepIn K (.ref f14) = true)
    {f15 : Addr} {od15 an15 : Option Addr} {sl15 : Array (Option Value)} {oc15 kV15 dc15 pm15 cd15 ct15 : Value} (a15 : PySem.W.nsIn K mainGlobals "_law_sound_fact" = some (some (.ref f15))) (l15 : K.lookup f15 = some ⟨oc15, od15, .func (PySem.W.fnOf "_law_sound_fact" "_law_sound_fact" (defArgs (topS 23)) (defBody (topS 23)) (defScope (topS 23)) .none kV15 dc15 pm15 an15 cd15 ct15), sl15⟩) (c15 : PySem.W.codeIn K cd15 "_law_sound_fact" = true) (k15 : PySem.W.keepIn K (.ref f15) = true)
    {f16 : Addr} {od16 an16 : Option Addr} {sl16 : Array (Option Value)} {oc16 kV16 dc16 pm16 cd16 ct16 : Value} (a16 : PySem.W.nsIn K mainGlobals "number" = some (some (.ref f16))) (l16 : K.lookup f16 = some ⟨oc16, od16, .func (PySem.W.fnOf "number" "number" (defArgs (topS 8)) (defBody (topS 8)) (defScope (topS 8)) .none kV16 dc16 pm16 an16 cd16 ct16), sl16⟩) (c16 : PySem.W.codeIn K cd16 "number" = true) (k16 : PySem.W.keepIn K (.ref f16) = true)
    {f17 : Addr} {od17 an17 : Option Addr} {sl17 : Array (Option Value)} {oc17 kV17 dc17 pm17 cd17 ct17 : Value} (a17 : PySem.W.nsIn K mainGlobals "numbers_of" = some (some (.ref f17))) (l17 : K.lookup f17 = some ⟨oc17, od17, .func (PySem.W.fnOf "numbers_of" "numbers_of" (defArgs (topS 9)) (defBody (topS 9)) (defScope (topS 9)) .none kV17 dc17 pm17 an17 cd17 ct17), sl17⟩) (c17 : PySem.W.codeIn K cd17 "numbers_of" = true) (k17 : PySem.W.keepIn K (.ref f17) = true)
    {f18 : Addr} {od18 an18 : Option Addr} {sl18 : Array (Option Value)} {oc18 kV18 dc18 pm18 cd18 ct18 : Value} (a18 : PySem.W.nsIn K mainGlobals "pieces_of" = some (some (.ref f18))) (l18 : K.lookup f18 = some ⟨oc18, od18, .func (PySem.W.fnOf "pieces_of" "pieces_of" (defArgs (topS 10)) (defBody (topS 10)) (defScope (topS 10)) .none kV18 dc18 pm18 an18 cd18 ct18), sl18⟩) (c18 : PySem.W.codeIn K cd18 "pieces_of" = true) (k18 : PySem.W.keepIn K (.ref f18) = true)
    {f19 : Addr} {od19 an19 : Option Addr} {sl19 : Array (Option Value)} {oc19 kV19 dc19 pm19 cd19 ct19 : Value} (a19 : PySem.W.nsIn K mainGlobals "read_refit" = some (some (.ref f19))) (l19 : K.lookup f19 = some ⟨oc19, od19, .func (PySem.W.fnOf "read_refit" "read_refit" (defArgs (topS 11)) (defBody (topS 11)) (defScope (topS 11)) .none kV19 dc19 pm19 an19 cd19 ct19), sl19⟩) (c19 : PySem.W.codeIn K cd19 "read_refit" = true) (k19 : PySem.W.keepIn K (.ref f19) = true)
    {f20 : Addr} {od20 an20 : Option Addr} {sl20 : Array (Option Value)} {oc20 kV20 dc20 pm20 cd20 ct20 : Value} (a20 : PySem.W.nsIn K mainGlobals "read_words" = some (some (.ref f20))) (l20 : K.lookup f20 = some ⟨oc20, od20, .func (PySem.W.fnOf "read_words" "read_words" (defArgs (topS 12)) (defBody (topS 12)) (defScope (topS 12)) .none kV20 dc20 pm20 an20 cd20 ct20), sl20⟩) (c20 : PySem.W.codeIn K cd20 "read_words" = true) (k20 : PySem.W.keepIn K (.ref f20) = true)
    {f21 : Addr} {od21 an21 : Option Addr} {sl21 : Array (Option Value)} {oc21 kV21 dc21 pm21 cd21 ct21 : Value} (a21 : PySem.W.nsIn K mainGlobals "read_fact" = some (some (.ref f21))) (l21 : K.lookup f21 = some ⟨oc21, od21, .func (PySem.W.fnOf "read_fact" "read_fact" (defArgs (topS 13)) (defBody (topS 13)) (defScope (topS 13)) .none kV21 dc21 pm21 an21 cd21 ct21), sl21⟩) (c21 : PySem.W.codeIn K cd21 "read_fact" = true) (k21 : PySem.W.keepIn K (.ref f21) = true)
    {f22 : Addr} {od22 an22 : Option Addr} {sl22 : Array (Option Value)} {oc22 kV22 dc22 pm22 cd22 ct22 : Value} (a22 : PySem.W.nsIn K mainGlobals "_law_told" = some (some (.ref f22))) (l22 : K.lookup f22 = some ⟨oc22, od22, .func (PySem.W.fnOf "_law_told" "_law_told" (defArgs (topS 32)) (defBody (topS 32)) (defScope (topS 32)) .none kV22 dc22 pm22 an22 cd22 ct22), sl22⟩) (c22 : PySem.W.codeIn K cd22 "_law_told" = true) (k22 : PySem.W.keepIn K (.ref f22) = true)
    {f23 : Addr} {od23 an23 : Option Addr} {sl23 : Array (Option Value)} {oc23 kV23 dc23 pm23 cd23 ct23 : Value} (a23 : PySem.W.nsIn K mainGlobals "_law_written" = some (some (.ref f23))) (l23 : K.lookup f23 = some ⟨oc23, od23, .func (PySem.W.fnOf "_law_written" "_law_written" (defArgs (topS 26)) (defBody (topS 26)) (defScope (topS 26)) .none kV23 dc23 pm23 an23 cd23 ct23), sl23⟩) (c23 : PySem.W.codeIn K cd23 "_law_written" = true) (k23 : PySem.W.keepIn K (.ref f23) = true)
    {f24 : Addr} {od24 an24 : Option Addr} {sl24 : Array (Option Value)} {oc24 kV24 dc24 pm24 cd24 ct24 : Value} (a24 : PySem.W.nsIn K mainGlobals "law" = some (some (.ref f24))) (l24 : K.lookup f24 = some ⟨oc24, od24, .func (PySem.W.fnOf "law" "law" (defArgs (topS 33)) (defBody (topS 33)) (defScope (topS 33)) .none kV24 dc24 pm24 an24 cd24 ct24), sl24⟩) (c24 : PySem.W.codeIn K cd24 "law" = true) (k24 : PySem.W.keepIn K (.ref f24) = true)
    (z0 : PySem.W.nsIn K mainGlobals "list" = some none)
    (z1 : PySem.W.nsIn K mainGlobals "len" = some none)
    (z2 : PySem.W.nsIn K mainGlobals "abs" = some none)
    (z3 : PySem.W.nsIn K mainGlobals "tuple" = some none)
    (z4 : PySem.W.nsIn K mainGlobals "range" = some none)
    (z5 : PySem.W.nsIn K mainGlobals "any" = some none)
    (z6 : PySem.W.nsIn K mainGlobals "isinstance" = some none)
    (z7 : PySem.W.nsIn K mainGlobals "int" = some none)
    (z8 : PySem.W.nsIn K mainGlobals "str" = some none)
    (z9 : PySem.W.nsIn K mainGlobals "bool" = some none)
    (z10 : PySem.W.nsIn K mainGlobals "zip" = some none)
    (z11 : PySem.W.nsIn K mainGlobals "all" = some none)
    (z12 : PySem.W.nsIn K mainGlobals "min" = some none)
    (z13 : PySem.W.nsIn K mainGlobals "set" = some none)
    (z14 : PySem.W.nsIn K mainGlobals "sorted" = some none)
    {xc0 : Addr} (xa0 : PySem.W.nsIn K mainGlobals "BadText" = some (some (.ref xc0))) (xb0 : PySem.W.subIn K (.ref xc0) (.type "BaseException") = some true) (xt0 : PySem.W.typeIn K (.ref xc0) = some (.type "type")) (yd0 : PySem.W.hasDictIn K xc0 = true) (xs0 : PySem.W.subIn K (.ref xc0) (.ref xc0) = some true)
    (xx0 : PySem.W.excIn K xc0 [.type "ValueError", .type "Exception", .type "BaseException", .type "object"] "ValueError.__new__" = true) (xk0 : PySem.W.keepIn K (.ref xc0) = true)
    (ya0 : PySem.W.findIn K (.ref xc0) "__getattribute__" = some (some (.builtin "BaseException.__getattribute__"))) (yb0 : PySem.W.findIn K (.ref xc0) "__getattr__" = some none) (ye0 : PySem.W.findIn K (.ref xc0) "__class__" = some (some (.builtin "object.__class__"))) (yf0 : PySem.W.specialIn K (.builtin "object.__class__") "__get__" = some (some (.builtin "getset_descriptor.__get__"))) (yg0 : PySem.W.takesIn K (.builtin "object.__class__") = some true) (yh0 : PySem.W.mroIn K xc0 (.type "object") = some true)
    {xc1 : Addr} (xa1 : PySem.W.nsIn K mainGlobals "BadFact" = some (some (.ref xc1))) (xb1 : PySem.W.subIn K (.ref xc1) (.type "BaseException") = some true) (xt1 : PySem.W.typeIn K (.ref xc1) = some (.type "type")) (yd1 : PySem.W.hasDictIn K xc1 = true) (xs1 : PySem.W.subIn K (.ref xc1) (.ref xc1) = some true)
    {xc2 : Addr} (xa2 : PySem.W.nsIn K mainGlobals "BadNumber" = some (some (.ref xc2))) (xb2 : PySem.W.subIn K (.ref xc2) (.type "BaseException") = some true) (xt2 : PySem.W.typeIn K (.ref xc2) = some (.type "type")) (yd2 : PySem.W.hasDictIn K xc2 = true) (xs2 : PySem.W.subIn K (.ref xc2) (.ref xc2) = some true)
    {xc3 : Addr} (xa3 : PySem.W.nsIn K mainGlobals "ArgosyError" = some (some (.ref xc3))) (xb3 : PySem.W.subIn K (.ref xc3) (.type "BaseException") = some true) (xt3 : PySem.W.typeIn K (.ref xc3) = some (.type "type")) (yd3 : PySem.W.hasDictIn K xc3 = true) (xs3 : PySem.W.subIn K (.ref xc3) (.ref xc3) = some true)
    (xe0_0 : PySem.W.subIn K (.ref xc0) (.ref xc0) = some true)
    (xe0_1 : PySem.W.subIn K (.ref xc0) (.ref xc1) = some false)
    (xe0_2 : PySem.W.subIn K (.ref xc0) (.ref xc2) = some false)
    (xe0_3 : PySem.W.subIn K (.ref xc0) (.ref xc3) = some true)
    {dk0 : Addr} {hh0_0 hh0_1 hh0_2 hh0_3 : Int} {ht0_0 ht0_1 ht0_2 ht0_3 hu0_0 hu0_1 hu0_2 hu0_3 : Tok} {dn0 : Nat} (ka0 : PySem.W.nsIn K mainGlobals "PLAIN" = some (some (.ref dk0))) (kb0 : K.lookup dk0 = some ⟨.type "dict", none, .dict (List.toArray [⟨hh0_0, .str "fell" ht0_0, .int 1 hu0_0⟩, ⟨hh0_1, .str "lend" ht0_1, .int 2 hu0_1⟩, ⟨hh0_2, .str "pay" ht0_2, .int 2 hu0_2⟩, ⟨hh0_3, .str "clear" ht0_3, .int 1 hu0_3⟩]) dn0, #[]⟩)
    (kc0 : hh0_0 = PyData.keyHash w.params "fell" ∧ hh0_1 = PyData.keyHash w.params "lend" ∧ hh0_2 = PyData.keyHash w.params "pay" ∧ hh0_3 = PyData.keyHash w.params "clear") (kd0 : (dk0 == sysModules) = false)
    {tg0 : Tok} (gc0 : PySem.W.nsIn K mainGlobals "FIGURES" = some (some (.str "0123456789" tg0))) :
    ∃ fd : FuncData, (∀ (s : Shared) (v : Value), BindsTo s fd ⟨[v], []⟩ [("_law_script", v)]) ∧ ∀ base : Heap, K.In base → base.Ns mainGlobals mg → FnOk l.prog w K mg base (L2.CX l.prog w) 8 fa fd ["_law_script"] (spEnd K) := by
  have F0 := fun_mk (st := topS 15) l0 c0 k0
  have b0 := F0.binds (ps := ["_law_script"]) fun _ _ _ _ _ _ us hl => match us, hl with | [_], _ => rfl
  have F1 := fun_mk (st := topS 16) l1 c1 k1
  have b1 := F1.binds (ps := ["_law_draw", "_law_many"]) fun _ _ _ _ _ _ us hl => match us, hl with | [_, _], _ => rfl
  have F2 := fun_mk (st := topS 30) l2 c2 k2
  have b2 := F2.binds (ps := ["_law_draw", "_law_text"]) fun _ _ _ _ _ _ us hl => match us, hl with | [_, _], _ => rfl
  have F3 := fun_mk (st := topS 31) l3 c3 k3
  have b3 := F3.binds (ps := ["_law_draw", "_law_great"]) fun _ _ _ _ _ _ us hl => match us, hl with | [_, _], _ => rfl
  have F4 := fun_mk (st := topS 29) l4 c4 k4
  have b4 := F4.binds (ps := ["_law_draw", "_law_great"]) fun _ _ _ _ _ _ us hl => match us, hl with | [_, _], _ => rfl
  have F5 := fun_mk (st := topS 24) l5 c5 k5
  have b5 := F5.binds (ps := ["_law_word"]) fun _ _ _ _ _ _ us hl => match us, hl with | [_], _ => rfl
  have F6 := fun_mk (st := topS 25) l6 c6 k6
  have b6 := F6.binds (ps := ["_law_words"]) fun _ _ _ _ _ _ us hl => match us, hl with | [_], _ => rfl
  have F7 := fun_mk (st := topS 27) l7 c7 k7
  have b7 := F7.binds (ps := ["_law_words"]) fun _ _ _ _ _ _ us hl => match us, hl with | [_], _ => rfl
  have F8 := fun_mk (st := topS 28) l8 c8 k8
  have b8 := F8.binds (ps := ["_law_words"]) fun _ _ _ _ _ _ us hl => match us, hl with | [_], _ => rfl
  have F9 := fun_mk (st := topS 17) l9 c9 k9
  have b9 := F9.binds (ps := ["_law_found", "_law_due"]) fun _ _ _ _ _ _ us hl => match us, hl with | [_, _], _ => rfl
  have F10 := fun_mk (st := topS 20) l10 c10 k10
  have b10 := F10.binds (ps := ["_law_draw"]) fun _ _ _ _ _ _ us hl => match us, hl with | [_], _ => rfl
  have F11 := fun_mk (st := topS 19) l11 c11 k11
  have b11 := F11.binds (ps := ["_law_draw", "_law_pool", "_law_many"]) fun _ _ _ _ _ _ us hl => match us, hl with | [_, _, _], _ => rfl
  have F12 := fun_mk (st := topS 21) l12 c12 k12
  have b12 := F12.binds (ps := ["_law_draw", "_law_many"]) fun _ _ _ _ _ _ us hl => match us, hl with | [_, _], _ => rfl
  have F13 := fun_mk (st := topS 18) l13 c13 k13
  have b13 := F13.binds (ps := ["_law_timbers"]) fun _ _ _ _ _ _ us hl => match us, hl with | [_], _ => rfl
  have F14 := fun_mk (st := topS 22) l14 c14 k14
  have b14 := F14.binds (ps := ["_law_draw", "_law_slip_here"]) fun _ _ _ _ _ _ us hl => match us, hl with | [_, _], _ => rfl
  have F15 := fun_mk (st := topS 23) l15 c15 k15
  have b15 := F15.binds (ps := ["_law_draw", "_law_slip_here"]) fun _ _ _ _ _ _ us hl => match us, hl with | [_, _], _ => rfl
  have F16 := fun_mk (st := topS 8) l16 c16 k16
  have b16 := F16.binds (ps := ["text"]) fun _ _ _ _ _ _ us hl => match us, hl with | [_], _ => rfl
  have F17 := fun_mk (st := topS 9) l17 c17 k17
  have b17 := F17.binds (ps := ["words"]) fun _ _ _ _ _ _ us hl => match us, hl with | [_], _ => rfl
  have F18 := fun_mk (st := topS 10) l18 c18 k18
  have b18 := F18.binds (ps := ["words"]) fun _ _ _ _ _ _ us hl => match us, hl with | [_], _ => rfl
  have F19 := fun_mk (st := topS 11) l19 c19 k19
  have b19 := F19.binds (ps := ["words"]) fun _ _ _ _ _ _ us hl => match us, hl with | [_], _ => rfl
  have F20 := fun_mk (st := topS 12) l20 c20 k20
  have b20 := F20.binds (ps := ["words"]) fun _ _ _ _ _ _ us hl => match us, hl with | [_], _ => rfl
  have F21 := fun_mk (st := topS 13) l21 c21 k21
  have b21 := F21.binds (ps := ["text"]) fun _ _ _ _ _ _ us hl => match us, hl with | [_], _ => rfl
  have F22 := fun_mk (st := topS 32) l22 c22 k22
  have b22 := F22.binds (ps := ["_law_text"]) fun _ _ _ _ _ _ us hl => match us, hl with | [_], _ => rfl
  have F23 := fun_mk (st := topS 26) l23 c23 k23
  have b23 := F23.binds (ps := ["_law_fact"]) fun _ _ _ _ _ _ us hl => match us, hl with | [_], _ => rfl
  have F24 := fun_mk (st := topS 33) l24 c24 k24
  have b24 := F24.binds (ps := ["_law_script"]) fun _ _ _ _ _ _ us hl => match us, hl with | [_], _ => rfl
  have T : Tx K mg w := ⟨⟨_, _, F0, b0, PySem.W.mg_of X G a0⟩, ⟨_, _, F1, b1, PySem.W.mg_of X G a1⟩, ⟨_, _, F2, b2, PySem.W.mg_of X G a2⟩, ⟨_, _, F3, b3, PySem.W.mg_of X G a3⟩, ⟨_, _, F4, b4, PySem.W.mg_of X G a4⟩, ⟨_, _, F5, b5, PySem.W.mg_of X G a5⟩, ⟨_, _, F6, b6, PySem.W.mg_of X G a6⟩, ⟨_, _, F7, b7, PySem.W.mg_of X G a7⟩, ⟨_, _, F8, b8, PySem.W.mg_of X G a8⟩, ⟨_, _, F9, b9, PySem.W.mg_of X G a9⟩, ⟨_, _, F10, b10, PySem.W.mg_of X G a10⟩, ⟨_, _, F11, b11, PySem.W.mg_of X G a11⟩, ⟨_, _, F12, b12, PySem.W.mg_of X G a12⟩, ⟨_, _, F13, b13, PySem.W.mg_of X G a13⟩, ⟨_, _, F14, b14, PySem.W.mg_of X G a14⟩, ⟨_, _, F15, b15, PySem.W.mg_of X G a15⟩, ⟨_, _, F16, b16, PySem.W.mg_of X G a16⟩, ⟨_, _, F17, b17, PySem.W.mg_of X G a17⟩, ⟨_, _, F18, b18, PySem.W.mg_of X G a18⟩, ⟨_, _, F19, b19, PySem.W.mg_of X G a19⟩, ⟨_, _, F20, b20, PySem.W.mg_of X G a20⟩, ⟨_, _, F21, b21, PySem.W.mg_of X G a21⟩, ⟨_, _, F22, b22, PySem.W.mg_of X G a22⟩, ⟨_, _, F23, b23, PySem.W.mg_of X G a23⟩, ⟨_, _, F24, b24, PySem.W.mg_of X G a24⟩, PySem.W.mg_none_of X G z0, PySem.W.mg_none_of X G z1, PySem.W.mg_none_of X G z2, PySem.W.mg_none_of X G z3, PySem.W.mg_none_of X G z4, PySem.W.mg_none_of X G z5, PySem.W.mg_none_of X G z6, PySem.W.mg_none_of X G z7, PySem.W.mg_none_of X G z8, PySem.W.mg_none_of X G z9, PySem.W.mg_none_of X G z10, PySem.W.mg_none_of X G z11, PySem.W.mg_none_of X G z12, PySem.W.mg_none_of X G z13, PySem.W.mg_none_of X G z14, ⟨_, (PySem.W.mg_of X G xa0), xx0, xk0, xb0, xt0⟩, catT_of (PySem.W.mg_of X G xa0) (.cons (PySem.W.mg_of X G xa0) (PySem.W.exm_ref xb0 yd0 xt0 xe0_0) .nil), isT_of (PySem.W.mg_of X G xa1) (.cons (PySem.W.mg_of X G xa0) (kit_ref yd1 xt1 xe0_1 xs1) ⟨ya0, yb0, xb0, yd0, ye0, yf0, yg0, yh0⟩ .nil), isT_of (PySem.W.mg_of X G xa2) (.cons (PySem.W.mg_of X G xa0) (kit_ref yd2 xt2 xe0_2 xs2) ⟨ya0, yb0, xb0, yd0, ye0, yf0, yg0, yh0⟩ .nil), isT_of (PySem.W.mg_of X G xa3) (.cons (PySem.W.mg_of X G xa0) (kit_ref yd3 xt3 xe0_3 xs3) ⟨ya0, yb0, xb0, yd0, ye0, yf0, yg0, yh0⟩ .nil), ktab_mk X G ka0 kb0 ⟨⟨_, _, rfl, kc0.1⟩, ⟨⟨_, _, rfl, kc0.2.1⟩, ⟨⟨_, _, rfl, kc0.2.2.1⟩, ⟨⟨_, _, rfl, kc0.2.2.2⟩, trivial⟩⟩⟩⟩ kd0 ⟨ent_int, ⟨ent_int, ⟨ent_int, ⟨ent_int, trivial⟩⟩⟩⟩, ⟨_, PySem.W.mg_of X G gc0⟩⟩
  have e := hfa.symm.trans (PySem.W.mg_of X G a24)
  cases e
  exact ⟨PySem.W.fnOf "law" "law" (defArgs (topS 33)) (defBody (topS 33)) (defScope (topS 33)) .none kV24 dc24 pm24 an24 cd24 ct24, fun s v => .of_eq rfl, fun base _ _ => law_fn (f := m_law) (fn_okE (by decide) F24 sc_law rfl (pr_law T 0 _)) law_true⟩
end Ar
namespace Ar
open PySem PySem.Spec PyProof.Rows L2
theorem take_ok (d : Dr) (m : Int) (h1 : 0 < m) (h2 : m < 1000000000000000000000000000000) :
    m_law_take [.l (drL d), .z (.int m)] = .ok (.z (.int (d.take m).1)) [.l (drL (d.take m).2), .z (.int m)] := by
  have hb := natAbs_big h1 h2
  unfold m_law_take b_law_take
  by_cases c1 : d.got < m ∧ d.at_ < d.cells.length
  · have c1' : (d.at_ : Int) < d.cells.length := by have := c1.2; omega
    have hc : d.cells[d.at_]? = some (d.cells.getD d.at_ 0) := by
      rw [List.getD_eq_getElem?_getD, List.getElem?_eq_getElem c1.2]; rfl
    generalize hx : d.cells.getD d.at_ 0 = x at hc
    by_cases c2 : (1000000000000000000 : Int) ≤ (if x < 0 then -x else x)
    · have e : d.step m = ⟨d.cells, d.at_ + 1, (if x < 0 then -x else x), d.seed⟩ := by
        unfold Dr.step; rw [if_pos c1]; dsimp only; rw [hx, if_pos c2]
      by_cases c3 : m ≤ (if x < 0 then -x else x)
      · simp -implicitDefEqProofs [drL, Dr.take, e, c1.1, c1', hc, small_10, c2, c3, h1, hb]
      · simp -implicitDefEqProofs [drL, Dr.take, e, c1.1, c1', hc, small_10, c2, c3, h1, hb, small_16807]
    · have e : d.step m = ⟨d.cells, d.at_ + 1, 0, (d.seed * 48271 + x % 2147483629 * 69621 + 12345) % 2147483647⟩ := by
        unfold Dr.step; rw [if_pos c1]; dsimp only; rw [hx, if_neg c2]
      have c3 : ¬ m ≤ 0 := by omega
      simp -implicitDefEqProofs [drL, Dr.take, e, c1.1, c1', hc, small_10, c2, c3, h1, hb, small_16807, small_48271, small_69621]
  · have e : d.step m = d := by unfold Dr.step; rw [if_neg c1]
    have c1' : ¬ (d.got < m ∧ (d.at_ : Int) < d.cells.length) := fun q => c1 ⟨q.1, by omega⟩
    by_cases c3 : m ≤ d.got
    · have c4 : ¬ d.got < m := by omega
      simp -implicitDefEqProofs [drL, Dr.take, e, small_10, c3, c4, h1, hb]
    · have c4 : d.got < m := by omega
      have c5 : ¬ (d.at_ : Int) < d.cells.length := fun q => c1' ⟨c4, q⟩
      have c6 : ¬ d.at_ < d.cells.length := fun q => c1 ⟨c4, q⟩
      simp -implicitDefEqProofs [drL, Dr.take, e, small_10, c3, c4, c5, c6, h1, hb, small_16807]

theorem begin_ok (ns : List Int) : m_law_begin [.z (.scr ns)] = .ok (.l (drL (beginD ns))) [.z (.scr ns)] := by
  unfold m_law_begin b_law_begin
  simp -implicitDefEqProofs [drL, beginD, cut_to]
theorem set_ok (t : T) (l : List Int) (h : t.vw = some (.lst (nD l))) (hl : l.length < 64) : m_law_set [t] = .ok (.l (nT (isort (ddp l)))) [t] := by
  have h2 := ddp_length l
  have h3 : (ddp l).length < 64 := by omega
  have h4 : l.length < 4000 := by omega
  unfold m_law_set b_law_set
  simp -implicitDefEqProofs [h, h3, h4]
theorem same_turns (fu : Nat) (a b : D) (l : List D) (ih : ∀ d ∈ l, m_law_same fu [.z d, .z d] = .ok (.z (.bl true)) [.z d, .z d]) :
    compR [2, 3] (Tg.t [.n 2, .n 3]).put (M.ret true) (zT (callM (m_law_same fu) [none, none] (argEx (rdz 2) (argEx (rdz 3) (M.ret []))))) (l.map fun d => D.tup [d, d]) [.z a, .z b, .gone, .gone] =
      .ok (List.replicate l.length (.bl true)) [.z a, .z b, .gone, .gone] := by
  rw [compR_pure (ts0 := [.z a, .z b, .gone, .gone]) (fun _ => some (.bl true)) (by simp) fun d hd => by
    obtain ⟨e, he, rfl⟩ := List.mem_map.mp hd
    simp -implicitDefEqProofs [ih e he]]
  congr 1
  induction l with
  | nil => rfl
  | cons x l ih2 =>
    show D.bl true :: List.filterMap (fun _ => some (D.bl true)) (l.map fun d => D.tup [d, d]) = _
    rw [ih2 fun d hd => ih d (List.mem_cons_of_mem _ hd)]
    rfl
theorem same_ok : ∀ (fu : Nat) (d : D), okm fu d = true → m_law_same (fu + 1) [.z d, .z d] = .ok (.z (.bl true)) [.z d, .z d]
  | fu, .non, _ => by unfold m_law_same; simp
  | fu, .bl b, _ => by unfold m_law_same; simp
  | fu, .int b, _ => by unfold m_law_same; simp
  | fu, .str b, h => by
    have h' : PyData.strOk b = true := by cases fu <;> exact h
    have e : oEq (.str b) (.str b) = some (.z (.bl true)) := oEq_refl (k := 0) h' (by omega)
    unfold m_law_same; simp -implicitDefEqProofs [e]
  | fu + 1, .lst l, h => by
    have h' : (decide (l.length ≤ 1000000) && l.all (okm fu)) = true := h
    rw [Bool.and_eq_true, decide_eq_true_eq, List.all_eq_true] at h'
    have e := same_turns (fu + 1) (.lst l) (.lst l) l fun d hd => same_ok fu d (h'.2 d hd)
    unfold m_law_same
    simp -implicitDefEqProofs [zip2, zipD_self, e, h'.1, oAll_rep]
  | fu + 1, .tup l, h => by
    have h' : (decide (l.length ≤ 1000000) && l.all (okm fu)) = true := h
    rw [Bool.and_eq_true, decide_eq_true_eq, List.all_eq_true] at h'
    have e := same_turns (fu + 1) (.tup l) (.tup l) l fun d hd => same_ok fu d (h'.2 d hd)
    unfold m_law_same
    simp -implicitDefEqProofs [zip2, zipD_self, e, h'.1, oAll_rep]
  | 0, .lst l, h => nomatch h
  | 0, .tup l, h => nomatch h
  | 0, .dk l, h => nomatch h
  | 0, .dt l, h => nomatch h
  | 0, .st l, h => nomatch h
  | 0, .scr l, h => nomatch h
  | 0, .fn l, h => nomatch h
  | 0, .ob c l, h => nomatch h
  | k + 1, .dk l, h => nomatch h
  | k + 1, .dt l, h => nomatch h
  | k + 1, .st l, h => nomatch h
  | k + 1, .scr l, h => nomatch h
  | k + 1, .fn l, h => nomatch h
  | k + 1, .ob c l, h => nomatch h

theorem some_loop (p m : T) : ∀ (ds : List D) (d : Dr) (left found : List Int) (u : T), ds.length ≤ left.length → found.length + left.length < 1000000 →
    ∃ (d' : Dr) (left' found' : List Int) (u' : T), loopS (Tg.n 5).put (sq (exprS (appM 4 (popM 3 (zT (callM m_law_take [some 0, none] (argTk 0 (argEx (fzM (lendM (un1 oLen (see (seeN 3))))) (M.ret [])))))))) RS.nx) ds [.l (drL d), p, m, .l (nT left), .l (nT found), u] =
      .nx [.l (drL d'), p, m, .l (nT left'), .l (nT found'), u'] ∧ found'.length = found.length + ds.length ∧ (found' ++ left').Perm (found ++ left)
  | [], d, left, found, u, _, _ => ⟨d, left, found, u, rfl, rfl, List.Perm.refl _⟩
  | x :: ds, d, left, found, u, h1, h2 => by
    rw [List.length_cons] at h1
    have hp : (0 : Int) < left.length := by omega
    have hq : (left.length : Int) < 1000000000000000000000000000000 := by omega
    have k0 := take_lo d hp
    have k1 := take_hi d hp
    generalize hr : (d.take left.length).1 = r at k0 k1
    generalize hd : (d.take left.length).2 = d1
    have ht := take_ok d left.length hp hq
    rw [hr, hd] at ht
    have hl : r.toNat < left.length := by omega
    have hx : (nT left)[r.toNat]? = some (.z (.int left[r.toNat])) := by rw [nT_get, List.getElem?_eq_getElem hl]; rfl
    have hpop : ∀ S : List T, poD 3 r S (some (.l (nT left))) = .ok (.z (.int left[r.toNat])) (S.set 3 (.l ((nT left).eraseIdx r.toNat))) := fun S => poD_l k0 (by omega) hx
    have he : (left.eraseIdx r.toNat).length = left.length - 1 := List.length_eraseIdx_of_lt hl
    have hf : found.length < 1000000 := by omega
    obtain ⟨d', left', found', u', e1, e2, e3⟩ := some_loop p m ds d1 (left.eraseIdx r.toNat) (found ++ [left[r.toNat]]) (.z x) (by omega) (by rw [List.length_append]; simp only [List.length_cons, List.length_nil]; omega)
    refine ⟨d', left', found', u', ?_, ?_, ?_⟩
    · rw [loopS_cons, ← e1]
      simp -implicitDefEqProofs [ht, hpop, hf]
    · rw [e2, List.length_append, List.length_cons]
      simp only [List.length_cons, List.length_nil]
      omega
    · refine e3.trans ?_
      rw [List.append_assoc]
      exact List.Perm.append_left _ (perm_erase left _ hl)
theorem some_ok (d : Dr) (pool : List Int) (many : Int) (h1 : pool.length < 100000) (h0 : -1000000 ≤ many) :
    ∃ (l : List Int) (d' : Dr), m_law_some [.l (drL d), .z (.lst (nD pool)), .z (.int many)] = .ok (.l (nT l)) [.l (drL d'), .z (.lst (nD pool)), .z (.int many)] ∧ l.length = min many.toNat pool.length ∧ ∃ rest, (l ++ rest).Perm pool := by
  have hmn := mnI_eq many pool.length
  generalize hj : mnI many pool.length = j at hmn
  have hj1 : j ≤ pool.length := by omega
  have hj2 : j.toNat = min many.toNat pool.length := by omega
  have hbig : big62 j := ⟨by omega, by omega⟩
  obtain ⟨d', left', found', u', e1, e2, e3⟩ := some_loop (.z (.lst (nD pool))) (.z (.int many)) (upto 0 j) d pool [] .gone (by rw [upto_length]; omega) (by simp; omega)
  refine ⟨found', d', ?_, ?_, left', ?_⟩
  · unfold m_law_some b_law_some
    rw [upto_nD] at e1
    have e1' : loopS (Tg.n 5).put (sq (exprS (appM 4 (popM 3 (zT (callM m_law_take [some 0, none] (argTk 0 (argEx (fzM (lendM (un1 oLen (see (seeN 3))))) (M.ret [])))))))) RS.nx) (nD (uI 0 j)) [.l (drL d), .z (.lst (nD pool)), .z (.int many), .l (nT pool), .l [], .gone] = _ := e1
    simp -implicitDefEqProofs [hj, hbig, e1']
  · rw [e2, upto_length, List.length_nil]; omega
  · simpa using e3
theorem slip_ok (d : Dr) : ∃ (s : Int) (d' : Dr), m_law_slip [.l (drL d)] = .ok (.z (.int s)) [.l (drL d')] ∧ 1 ≤ s ∧ s ≤ 12 := by
  have a0 := take_lo d (m := 12) (by omega)
  have a1 := take_hi d (m := 12) (by omega)
  generalize ha : (d.take 12).1 = a at a0 a1
  generalize hd : (d.take 12).2 = d1
  have b0 := take_lo d1 (m := 4) (by omega)
  have b1 := take_hi d1 (m := 4) (by omega)
  generalize hb : (d1.take 4).1 = b at b0 b1
  generalize hd1 : (d1.take 4).2 = d2
  have k0 := take_lo d2 (m := 3) (by omega)
  have k1 := take_hi d2 (m := 3) (by omega)
  generalize hr : (d2.take 3).1 = r at k0 k1
  obtain ⟨m, hm, hlo, hhi⟩ : ∃ m : Int, atI [D.int (1 + a), D.int (3 + b), D.int 12] r = some (.int m) ∧ 1 ≤ m ∧ m ≤ 12 := by
    rcases at3 (D.int (1 + a)) (D.int (3 + b)) (D.int 12) k0 k1 with h | h | h
    · exact ⟨_, h, by omega, by omega⟩
    · exact ⟨_, h, by omega, by omega⟩
    · exact ⟨_, h, by omega, by omega⟩
  refine ⟨m, (d2.take 3).2, ?_, hlo, hhi⟩
  unfold m_law_slip b_law_slip
  simp -implicitDefEqProofs [take_ok, ha, hd, hb, hd1, hr, hm]
theorem okq_str {a : Str} (h : PyData.strOk a = true) : okq (.str a) = true := by
  exact okq_of (k := 0) h (by omega)
theorem okd_tnD (k : Nat) (l : List Int) : okd (k + 1) (.tup (nD l)) = true := by
  rw [okd, okds_iff]
  intro d hd
  unfold nD at hd
  obtain ⟨i, _, rfl⟩ := List.mem_map.mp hd
  rw [okd]
theorem len_60 {l : List Int} (nd : l.Nodup) (h : ∀ x ∈ l, 1 ≤ x ∧ x ≤ 60) : l.length ≤ 60 := by
  have := nd.length_le_of_subset (l₂ := uI 1 61) fun x hx => mem_uI.mpr ⟨(h x hx).1, by have := (h x hx).2; omega⟩
  rw [uI_length] at this
  exact this
def fct (w : Str) (rest : List D) : D := .tup (.str w :: rest)
theorem oEq_strs (a b : Str) (ha : PyData.strOk a = true) (hb : PyData.strOk b = true) : oEq (.str a) (.str b) = some (.z (.bl (decide (a = b)))) := by
  unfold oEq
  rw [if_pos ⟨okq_str ha, okq_str hb⟩]
  have : eqd (.str a) (.str b) = (a == b) := by unfold eqd pyD; rw [D.py, D.py]; show PyData.eqv (.str a) (.str b) = _; rw [PyData.eqv]
  rw [this]
  by_cases h : a = b
  · subst h; simp
  · rw [decide_eq_false h, beq_eq_false_iff_ne.mpr h]
theorem oIn_2 (a b c : Str) : oIn (.str a) (.tup [.str b, .str c]) = some (.z (.bl (decide (b = a) || decide (c = a)))) := by
  unfold oIn inD
  have : ∀ x y : Str, eqf (.str x) (.str y) = decide (x = y) := fun x y => by
    show (x == y) = _
    by_cases h : x = y
    · subst h; simp
    · rw [decide_eq_false h]; simpa using h
  simp [flatD, this]
theorem rg61 : RgOk 1 61 := by unfold RgOk; decide
theorem any_ok (d : Dr) (n : Int) (h1 : 1 ≤ n) (h2 : n ≤ 60) : ∃ (l : List Int) (d' : Dr), m_law_any_timbers [.l (drL d), .z (.int n)] = .ok (.z (.tup (nD l))) [.l (drL d'), .z (.int n)] ∧ l ≠ [] ∧ l.Nodup ∧ ∀ x ∈ l, 1 ≤ x ∧ x ≤ 60 := by
  obtain ⟨l, d', e, hl, rest, hp⟩ := some_ok d (uI 1 61) n (by rw [uI_length]; omega) (by omega)
  have hu : (uI 1 61).length = 60 := by rw [uI_length]; rfl
  have nd : (l ++ rest).Nodup := hp.nodup_iff.mpr (uI_nodup 1 61)
  refine ⟨l, d', ?_, fun z => ?_, (List.nodup_append.mp nd).1, fun x hx => ?_⟩
  · unfold m_law_any_timbers b_law_any_timbers
    simp -implicitDefEqProofs [e, rg61]
  · rw [z, hu] at hl; simp at hl; omega
  · have := mem_uI.mp (hp.mem_iff.mp (List.mem_append_left rest hx))
    omega
structure FlI (left : List Int) (found : List (List Int)) : Prop where
  nl : left.Nodup
  nf : found.flatten.Nodup
  dj : ∀ x ∈ left, x ∉ found.flatten
  rl : ∀ x ∈ left, 1 ≤ x ∧ x ≤ 60
  rf : ∀ x ∈ found.flatten, 1 ≤ x ∧ x ≤ 60
theorem FlI.next {left l : List Int} {found : List (List Int)} (h : FlI left found) (hl : l.Nodup) (hs : ∀ x ∈ l, x ∈ left) : FlI (left.filter fun x => !decide (x ∈ l)) (found ++ [l]) := by
  have ef : (found ++ [l]).flatten = found.flatten ++ l := by rw [List.flatten_append]; simp
  refine ⟨h.nl.filter _, ?_, fun x hx => ?_, fun x hx => h.rl x (List.mem_filter.mp hx).1, fun x hx => ?_⟩
  · rw [ef]
    exact List.nodup_append.mpr ⟨h.nf, hl, fun x hx y hy q => h.dj y (hs y hy) (q ▸ hx)⟩
  · rw [ef]
    intro q
    rcases List.mem_append.mp q with q | q
    · exact h.dj x (List.mem_filter.mp hx).1 q
    · have := (List.mem_filter.mp hx).2
      simp [q] at this
  · rw [ef] at hx
    rcases List.mem_append.mp hx with q | q
    · exact h.rf x q
    · exact h.rl x (hs x q)
def qT (L : List (List Int)) : List T := L.map fun m => .z (.tup (nD m))
def qD (L : List (List Int)) : List D := L.map fun m => .tup (nD m)
@[simp] theorem qT_length (L) : (qT L).length = L.length := List.length_map _
@[simp] theorem qD_length (L) : (qD L).length = L.length := List.length_map _
@[simp] theorem qD_qT (L) : (qD L).map T.z = qT L := by unfold qD qT; rw [List.map_map]; rfl
@[simp] theorem qT_app1 (L m) : qT L ++ [.z (.tup (nD m))] = qT (L ++ [m]) := by unfold qT; rw [List.map_append]; rfl
theorem qT_eq (L) : qT L = (qD L).map T.z := (qD_qT L).symm
@[simp] theorem fzs_qT (L) : T.fzs (qT L) = some (qD L) := by rw [qT_eq]; exact fzs_z _
@[simp] theorem vwz_qT (L) : vwz (qT L) = some (qD L) := by rw [qT_eq]; exact vwz_of _
@[simp] theorem vw_qT (L) : T.vw (.l (qT L)) = some (.lst (qD L)) := by rw [qT_eq]; exact vw_l _
@[simp] theorem fz_qT (L) : T.fz (.l (qT L)) = some (.lst (qD L)) := by rw [qT_eq]; exact fz_l _
theorem names_comp (s : T) (ds : List D) (d : Dr) : ∃ (l : List Int) (d' : Dr), compR [6] (Tg.n 6).put (M.ret true) (zT (binZ oAdd (zT (kT (.int 10))) (zT (callM m_law_take [some 0, none] (argTk 0 (argEx (kT (.int 3998)) (M.ret []))))))) ds
    [.l (drL d), s, .gone, .gone, .gone, .gone, .gone, .gone, .gone] = .ok (nD l) [.l (drL d'), s, .gone, .gone, .gone, .gone, .gone, .gone, .gone] ∧ l.length = ds.length ∧ ∀ x ∈ l, 10 ≤ x ∧ x ≤ 4007 := by
  obtain ⟨l, d', e, hl, hp, _⟩ := compR_ints (vs := [6]) (put := (Tg.n 6).put) (mc := M.ret true) (me := zT (binZ oAdd (zT (kT (.int 10))) (zT (callM m_law_take [some 0, none] (argTk 0 (argEx (kT (.int 3998)) (M.ret [])))))))
    (fun d => [.l (drL d), s, .gone, .gone, .gone, .gone, .gone, .gone, .gone]) (fun d => (10 + (d.take 3998).1, (d.take 3998).2)) (fun x => 10 ≤ x ∧ x ≤ 4007) (fun _ => True) ds d [.l (drL d), s, .gone, .gone, .gone, .gone, .gone, .gone, .gone] trivial (by rfl) fun d x _ _ => by
      have t1 := take_ok d 3998 (by omega) (by omega)
      have l1 := take_lo d (m := 3998) (by omega)
      have g1 := take_hi d (m := 3998) (by omega)
      refine ⟨?_, trivial, by dsimp only; omega⟩
      simp -implicitDefEqProofs [t1]
  exact ⟨l, d', e, hl, hp⟩
theorem left_comp (left l : List Int) (a0 a1 a2 a3 a5 a6 : T) : compR [8] (Tg.n 8).put (tsB (binA oNotIn (see (seeN 8)) (seeN 7))) (zT (rdz 8)) (nD left) [a0, a1, a2, a3, .z (.lst (nD left)), a5, a6, .z (.lst (nD l)), .gone] =
    .ok (nD (left.filter fun x => !decide (x ∈ l))) [a0, a1, a2, a3, .z (.lst (nD left)), a5, a6, .z (.lst (nD l)), .gone] := by
  refine compR_filt _ (by rfl) fun x hx => ?_
  generalize nD left = ll
  by_cases h : x ∈ l <;> simp -implicitDefEqProofs [h]
theorem refit_turn (d : Dr) (s : Int) (hs1 : 1 ≤ s) (hs2 : s ≤ 12) (left : List Int) (sets : List (List Int)) (t2 t3 t4 t6 t7 : T) (h4 : t4 = .z (.lst (nD left)) ∨ t4 = .l (nT left)) (I : FlI left sets) (hn : ∀ m ∈ sets, m ≠ [] ∧ (m.length : Int) ≤ s) (hf : sets.length < 100) (k : D) :
    ∃ (d' : Dr) (left' : List Int) (sets' : List (List Int)) (u7 : T), lTurn (Tg.n 6).put l0_law_sound_refit k [.l (drL d), .z (.int s), t2, t3, t4, .l (qT sets), t6, t7, .gone] = .nx [.l (drL d'), .z (.int s), t2, t3, .l (nT left'), .l (qT sets'), .z k, u7, .gone] ∧
      FlI left' sets' ∧ (∀ m ∈ sets', m ≠ [] ∧ (m.length : Int) ≤ s) ∧ sets'.length ≤ sets.length + 1 := by
  have t1 := take_ok d s (by omega) (by omega)
  have l1 := take_lo d (m := s) (by omega)
  have g1 := take_hi d (m := s) (by omega)
  generalize hr1 : (d.take s).1 = r1 at *
  generalize hd1 : (d.take s).2 = d1 at *
  have ll := len_60 I.nl I.rl
  obtain ⟨l, d2, e1, f1, w, p1⟩ := some_ok d1 left (1 + r1) (by omega) (by omega)
  have hl : l.Nodup := (List.nodup_append.mp (p1.nodup_iff.mpr I.nl)).1
  have hs : ∀ x ∈ l, x ∈ left := fun x hx => p1.mem_iff.mp (List.mem_append_left _ hx)
  have lc := fun a0 a1 a2 a3 a5 a6 => left_comp left l a0 a1 a2 a3 a5 a6
  have h1 : sets.length < lim := by unfold lim; omega
  have h3 : (left.filter fun x => !decide (x ∈ l)).length ≤ lim := by
    have := List.length_filter_le (fun x => !decide (x ∈ l)) left
    unfold lim; omega
  by_cases hz : l = []
  · subst hz
    have In : FlI (left.filter fun x => !decide (x ∈ ([] : List Int))) sets := by
      have e : (left.filter fun x => !decide (x ∈ ([] : List Int))) = left := by
        rw [List.filter_eq_self]; intro x _; simp
      rw [e]; exact I
    refine ⟨d2, left.filter fun x => !decide (x ∈ ([] : List Int)), sets, .z (.lst (nD [])), ?_, In, hn, by omega⟩
    generalize (left.filter fun x => !decide (x ∈ ([] : List Int))) = l9 at *
    rcases h4 with rfl | rfl <;> (unfold l0_law_sound_refit; simp -implicitDefEqProofs [t1, e1, lc, h1, h3])
  · refine ⟨d2, left.filter fun x => !decide (x ∈ l), sets ++ [l], .z (.lst (nD l)), ?_, I.next hl hs, fun m hm => ?_, by rw [List.length_append]; simp⟩
    · generalize (left.filter fun x => !decide (x ∈ l)) = l9 at *
      rcases h4 with rfl | rfl <;> (unfold l0_law_sound_refit; simp -implicitDefEqProofs [t1, e1, lc, h1, h3, hz])
    · rcases List.mem_append.mp hm with q | q
      · exact hn m q
      · rw [List.mem_singleton] at q; subst q
        exact ⟨hz, by omega⟩
structure Refit (s : Int) (names : List Int) (sets : List (List Int)) : Prop where
  nn : names.Nodup
  nr : ∀ x ∈ names, 10 ≤ x ∧ x ≤ 4007
  nl : names.length ≤ 8
  sf : sets.flatten.Nodup
  sr : ∀ x ∈ sets.flatten, 1 ≤ x ∧ x ≤ 60
  sn : ∀ m ∈ sets, m ≠ [] ∧ (m.length : Int) ≤ s
  sl : sets.length ≤ 8
  ne : names ≠ [] ∨ sets ≠ []
@[simp] theorem oEq_qD_nil (L : List (List Int)) : oEq (.lst (qD L)) (.lst []) = some (.z (.bl (decide (L = [])))) := by
  cases L with
  | nil => exact oEq_nil_nil
  | cons m L =>
    have h1 : okq (.lst (qD (m :: L))) = true := okq_of (k := 2) (by
      rw [okd, okds_iff]
      intro d hd
      obtain ⟨m, _, rfl⟩ := List.mem_map.mp hd
      exact okd_tnD 0 m) (by omega)
    unfold oEq
    rw [if_pos ⟨h1, okq_of (k := 1) rfl (by omega)⟩]
    have : eqd (.lst (qD (m :: L))) (.lst []) = false := by
      obtain ⟨e1, _⟩ := okq_py h1
      unfold eqd
      rw [D.py] at e1
      cases q : D.pys (qD (m :: L)) with
      | none => rw [q] at e1; cases e1
      | some p =>
        rw [q] at e1
        rw [(Option.some.inj e1).symm]
        cases p with
        | nil =>
          exfalso
          show False
          unfold qD at q
          rw [List.map_cons, D.pys] at q
          split at q <;> cases q
        | cons x y =>
          show PyData.eqv (.list (x :: y)) (.list []) = _
          rw [PyData.eqv, PyData.eqvAll]
          all_goals simp
    rw [this]
    simp
theorem rot_len {l : List Int} {k : Nat} : (l.drop k ++ l.take k).length = l.length := by rw [List.length_append, List.length_drop, List.length_take]; omega
theorem rot_perm (l : List Int) (k : Nat) : (l.drop k ++ l.take k).Perm l := by
  have := List.perm_append_comm (l₁ := l.drop k) (l₂ := l.take k)
  rwa [List.take_append_drop] at this
theorem oSl_lst' (l : List D) (a b) : oSl (.lst l) a b = some (.l ((cutD l a b).map .z)) := rfl
theorem refit_ok (d : Dr) (s : Int) (hs1 : 1 ≤ s) (hs2 : s ≤ 12) : ∃ (names : List Int) (sets : List (List Int)) (d' : Dr), m_law_sound_refit [.l (drL d), .z (.int s)] = .ok (.z (fct "refit" [.tup (nD names), .tup (qD sets)])) [.l (drL d'), .z (.int s)] ∧ Refit s names sets := by
  have t1 := take_ok d 9 (by omega) (by omega)
  have l1 := take_lo d (m := 9) (by omega)
  have g1 := take_hi d (m := 9) (by omega)
  generalize hr1 : (d.take 9).1 = r1 at *
  generalize hd1 : (d.take 9).2 = d1 at *
  obtain ⟨ns, d2, c1, nl, nr⟩ := names_comp (.z (.int s)) (nD (uI 0 r1)) d1
  rw [nD_length, uI_length] at nl
  have e2 := set_ok (.z (.lst (nD ns))) ns rfl (by omega)
  have n0 : (isort (ddp ns)).length ≤ 8 := by
    have a := (isort_perm (ddp ns)).length_eq
    have b := ddp_length ns
    omega
  have n1 := rise_nodup ns
  have n2 : ∀ x ∈ isort (ddp ns), 10 ≤ x ∧ x ≤ 4007 := fun x hx => nr x (mem_ddp.mp ((isort_perm (ddp ns)).mem_iff.mp hx))
  generalize isort (ddp ns) = N at *
  have t3 := take_ok d2 ((N.length : Int) + 1) (by omega) (by omega)
  have l3 := take_lo d2 (m := (N.length : Int) + 1) (by omega)
  have g3 := take_hi d2 (m := (N.length : Int) + 1) (by omega)
  generalize hr3 : (d2.take ((N.length : Int) + 1)).1 = r3 at *
  generalize hd3 : (d2.take ((N.length : Int) + 1)).2 = d3 at *
  have t4 := take_ok d3 9 (by omega) (by omega)
  have l4 := take_lo d3 (m := 9) (by omega)
  have g4 := take_hi d3 (m := 9) (by omega)
  generalize hr4 : (d3.take 9).1 = r4 at *
  generalize hd4 : (d3.take 9).2 = d4 at *
  have I0 : FlI (uI 1 61) [] := ⟨uI_nodup 1 61, List.nodup_nil, fun _ _ q => (List.not_mem_nil q).elim, fun x hx => by have := mem_uI.mp hx; omega, fun _ q => (List.not_mem_nil q).elim⟩
  obtain ⟨ts', el, d5, left, sets, t4', t6, t7, et, h4, If, hn, hf⟩ := loopS_rel (put := (Tg.n 6).put) (body := l0_law_sound_refit) (fun n ts => ∃ (d : Dr) (left : List Int) (sets : List (List Int)) (t4 t6 t7 : T), ts = [.l (drL d), .z (.int s), .z (.lst (nD N)), .z (.int r3), t4, .l (qT sets), t6, t7, .gone] ∧ (t4 = .z (.lst (nD left)) ∨ t4 = .l (nT left)) ∧ FlI left sets ∧ (∀ m ∈ sets, m ≠ [] ∧ (m.length : Int) ≤ s) ∧ sets.length ≤ n)
    (nD (uI 0 r4)) 0 [.l (drL d4), .z (.int s), .z (.lst (nD N)), .z (.int r3), .z (.lst (nD (uI 1 61))), .l [], .gone, .gone, .gone] ⟨d4, uI 1 61, [], _, _, _, rfl, .inl rfl, I0, fun _ q => (List.not_mem_nil q).elim, Nat.le_refl _⟩ (by
      rintro n ts k hk hn' ⟨d6, left, sets, t4, t6, t7, rfl, h4, I, hm, hf⟩
      rw [nD_length, uI_length] at hn'
      obtain ⟨d', left', sets', u7, e, I', hm', hl'⟩ := refit_turn d6 s hs1 hs2 left sets _ _ t4 t6 t7 h4 I hm (by omega) k
      exact ⟨_, e, d', left', sets', _, _, _, rfl, .inr rfl, I', hm', by omega⟩)
  subst et
  rw [nD_length, uI_length] at hf
  have hb1 : big62 r1 := ⟨by omega, by omega⟩
  have hb4 : big62 r4 := ⟨by omega, by omega⟩
  have lns : ns.length ≤ lim := by unfold lim; omega
  have sl : (qD sets).length ≤ lim := by rw [qD_length]; unfold lim; omega
  obtain ⟨k, rfl⟩ : ∃ k : Nat, r3 = k := ⟨r3.toNat, by omega⟩
  have c2 := cut_from N (k := (k : Int)) (by omega)
  have c3 := cut_to N (k := (k : Int)) (by omega)
  have rl := rot_len (l := N) (k := k)
  have rp := rot_perm N k
  by_cases hN : N = []
  · subst hN
    have hk : k = 0 := by simp at g3; omega
    subst hk
    have t3' : m_law_take [.l (drL d2), .z (.int 1)] = .ok (.z (.int 0)) [.l (drL d3), .z (.int 1)] := t3
    have el' : loopS (Tg.n 6).put l0_law_sound_refit (nD (uI 0 r4)) [.l (drL d4), .z (.int s), .z (.lst []), .z (.int 0), .z (.lst (nD (uI 1 61))), .l [], .gone, .gone, .gone] = .nx [.l (drL d5), .z (.int s), .z (.lst []), .z (.int 0), t4', .l (qT sets), t6, t7, .gone] := el
    by_cases hS : sets = []
    · subst hS
      have el' : loopS (Tg.n 6).put l0_law_sound_refit (nD (uI 0 r4)) [.l (drL d4), .z (.int s), .z (.lst []), .z (.int 0), .z (.lst (nD (uI 1 61))), .l [], .gone, .gone, .gone] = .nx [.l (drL d5), .z (.int s), .z (.lst []), .z (.int 0), t4', .l [], t6, t7, .gone] := el
      refine ⟨[4007], [], d5, ?_, ⟨by simp, fun x hx => ?_, by simp, by simp, fun _ q => (List.not_mem_nil q).elim, fun _ q => (List.not_mem_nil q).elim, by simp, .inl (by simp)⟩⟩
      · have c4' : cutD [D.int 4007] (some 0) none = [D.int 4007] := by rfl
        have c5' : cutD [D.int 4007] none (some 0) = [] := by rfl
        unfold m_law_sound_refit b_law_sound_refit fct
        rcases h4 with rfl | rfl <;> simp -implicitDefEqProofs [t1, c1, e2, t3', t4, el', hb1, hb4, rg61, lns, sl, qD, c4', c5', nD_nil, nT_nil, nD_cons, oSl_lst']
        done
      · rw [List.mem_singleton] at hx; subst hx; omega
    · refine ⟨[], sets, d5, ?_, ⟨List.nodup_nil, fun _ q => (List.not_mem_nil q).elim, by simp, If.nf, If.rf, hn, by omega, .inr hS⟩⟩
      have c4' : cutD ([] : List D) (some 0) none = [] := by rfl
      have c5' : cutD ([] : List D) none (some 0) = [] := by rfl
      unfold m_law_sound_refit b_law_sound_refit fct
      rcases h4 with rfl | rfl <;> simp -implicitDefEqProofs [t1, c1, e2, t3', t4, el', hb1, hb4, rg61, lns, sl, hS, c4', c5', nD_nil, nT_nil, oSl_lst']
      done
  · refine ⟨N.drop k ++ N.take k, sets, d5, ?_, ⟨rp.nodup_iff.mpr n1, fun x hx => n2 x (rp.mem_iff.mp hx), by omega, If.nf, If.rf, hn, by omega, .inl fun q => hN ?_⟩⟩
    · have hl : (N.drop k).length + (N.take k).length ≤ lim := by rw [← List.length_append, rl]; unfold lim; omega
      simp only [Int.toNat_natCast] at c2 c3
      generalize N.drop k = N1 at *
      generalize N.take k = N2 at *
      unfold m_law_sound_refit b_law_sound_refit fct
      rcases h4 with rfl | rfl <;> simp -implicitDefEqProofs [t1, c1, e2, t3, t4, el, hb1, hb4, rg61, lns, sl, hN, c2, c3, hl]
      done
    · have := rp.length_eq
      rw [q] at this
      exact List.length_eq_zero_iff.mp this.symm
inductive DF (s : Int) : Str → List D → Prop
  | fell {n : Int} : 1 ≤ n → n ≤ 60 → DF s "fell" [.int n]
  | refit {names : List Int} {sets : List (List Int)} : Refit s names sets → DF s "refit" [.tup (nD names), .tup (qD sets)]
  | some {w : Str} {l : List Int} : w = "storm" ∨ w = "find" → l ≠ [] → l.Nodup → (∀ x ∈ l, 1 ≤ x ∧ x ≤ 60) → DF s w [.tup (nD l)]
  | money {w : Str} {n c : Int} : w = "lend" ∨ w = "pay" → 10 ≤ n → n ≤ 4007 → 1 ≤ c → c ≤ 1000000 → DF s w [.int n, .int c]
  | clear {n : Int} : 1 ≤ n → n ≤ 60 → DF s "clear" [.int n]
theorem sound_fact_ok (d : Dr) (s : Int) (hs1 : 1 ≤ s) (hs2 : s ≤ 12) : ∃ (w : Str) (rest : List D) (d' : Dr), m_law_sound_fact [.l (drL d), .z (.int s)] = .ok (.z (fct w rest)) [.l (drL d'), .z (.int s)] ∧ DF s w rest := by
  have t1 := take_ok d 8 (by omega) (by omega)
  have l1 := take_lo d (m := 8) (by omega)
  have g1 := take_hi d (m := 8) (by omega)
  generalize hr1 : (d.take 8).1 = r1 at *
  generalize hd1 : (d.take 8).2 = d1 at *
  have t2 := take_ok d1 3998 (by omega) (by omega)
  have l2 := take_lo d1 (m := 3998) (by omega)
  have g2 := take_hi d1 (m := 3998) (by omega)
  generalize hr2 : (d1.take 3998).1 = r2 at *
  generalize hd2 : (d1.take 3998).2 = d2 at *
  have p6 : oPow (.int 10) (.int 6) = some (.z (.int 1000000)) := by rfl
  by_cases c0 : r1 = 0
  · subst c0
    have t3 := take_ok d2 60 (by omega) (by omega)
    have l3 := take_lo d2 (m := 60) (by omega)
    have g3 := take_hi d2 (m := 60) (by omega)
    generalize hr3 : (d2.take 60).1 = r3 at *
    generalize hd3 : (d2.take 60).2 = d3 at *
    refine ⟨_, _, d3, ?_, .fell (n := 1 + r3) (by omega) (by omega)⟩
    unfold m_law_sound_fact b_law_sound_fact fct
    simp -implicitDefEqProofs [t1, t2, t3]
  by_cases c1 : r1 < 3
  · obtain ⟨names, sets, d3, e, hR⟩ := refit_ok d2 s hs1 hs2
    refine ⟨_, _, d3, ?_, .refit hR⟩
    unfold m_law_sound_fact b_law_sound_fact
    simp -implicitDefEqProofs [t1, t2, e, c0, c1]
  by_cases c2 : r1 < 5
  · have t3 := take_ok d2 2 (by omega) (by omega)
    have l3 := take_lo d2 (m := 2) (by omega)
    have g3 := take_hi d2 (m := 2) (by omega)
    generalize hr3 : (d2.take 2).1 = r3 at *
    generalize hd3 : (d2.take 2).2 = d3 at *
    obtain ⟨m, hm, m1, m2⟩ : ∃ m : Int, atI [D.int 4, D.int 60] r3 = some (.int m) ∧ 1 ≤ m ∧ m ≤ 60 := by
      rcases (by omega : r3 = 0 ∨ r3 = 1) with rfl | rfl
      · exact ⟨4, rfl, by omega, by omega⟩
      · exact ⟨60, rfl, by omega, by omega⟩
    have t4 := take_ok d3 m (by omega) (by omega)
    have l4 := take_lo d3 (m := m) (by omega)
    have g4 := take_hi d3 (m := m) (by omega)
    generalize hr4 : (d3.take m).1 = r4 at *
    generalize hd4 : (d3.take m).2 = d4 at *
    obtain ⟨l, d5, e, h0, h1, h2⟩ := any_ok d4 (1 + r4) (by omega) (by omega)
    obtain ⟨w, hw, ew⟩ : ∃ w : Str, (w = "storm" ∨ w = "find") ∧ atI [D.str "storm", D.str "find"] (r1 - 3) = some (.str w) := by
      rcases (by omega : r1 = 3 ∨ r1 = 4) with rfl | rfl
      · exact ⟨"storm", .inl rfl, rfl⟩
      · exact ⟨"find", .inr rfl, rfl⟩
    refine ⟨_, _, d5, ?_, .some hw h0 h1 h2⟩
    unfold m_law_sound_fact b_law_sound_fact fct
    simp -implicitDefEqProofs [t1, t2, t3, t4, e, ew, hm, c0, c1, c2]
  by_cases c3 : r1 < 7
  · have t3 := take_ok d2 2 (by omega) (by omega)
    have l3 := take_lo d2 (m := 2) (by omega)
    have g3 := take_hi d2 (m := 2) (by omega)
    generalize hr3 : (d2.take 2).1 = r3 at *
    generalize hd3 : (d2.take 2).2 = d3 at *
    obtain ⟨m, hm, m1, m2⟩ : ∃ m : Int, atI [D.int 9, D.int 1000000] r3 = some (.int m) ∧ 1 ≤ m ∧ m ≤ 1000000 := by
      rcases (by omega : r3 = 0 ∨ r3 = 1) with rfl | rfl
      · exact ⟨9, rfl, by omega, by omega⟩
      · exact ⟨1000000, rfl, by omega, by omega⟩
    have t4 := take_ok d3 m (by omega) (by omega)
    have l4 := take_lo d3 (m := m) (by omega)
    have g4 := take_hi d3 (m := m) (by omega)
    generalize hr4 : (d3.take m).1 = r4 at *
    generalize hd4 : (d3.take m).2 = d4 at *
    obtain ⟨w, hw, ew⟩ : ∃ w : Str, (w = "lend" ∨ w = "pay") ∧ atI [D.str "lend", D.str "pay"] (r1 - 5) = some (.str w) := by
      rcases (by omega : r1 = 5 ∨ r1 = 6) with rfl | rfl
      · exact ⟨"lend", .inl rfl, rfl⟩
      · exact ⟨"pay", .inr rfl, rfl⟩
    refine ⟨_, _, d4, ?_, .money (n := 10 + r2) (c := 1 + r4) hw (by omega) (by omega) (by omega) (by omega)⟩
    unfold m_law_sound_fact b_law_sound_fact fct
    simp -implicitDefEqProofs [t1, t2, t3, t4, ew, hm, c0, c1, c2, c3, p6]
  · have t3 := take_ok d2 60 (by omega) (by omega)
    have l3 := take_lo d2 (m := 60) (by omega)
    have g3 := take_hi d2 (m := 60) (by omega)
    generalize hr3 : (d2.take 60).1 = r3 at *
    generalize hd3 : (d2.take 60).2 = d3 at *
    refine ⟨_, _, d3, ?_, .clear (n := 1 + r3) (by omega) (by omega)⟩
    unfold m_law_sound_fact b_law_sound_fact fct
    simp -implicitDefEqProofs [t1, t2, t3, c0, c1, c2, c3]
def figs : List Nat := [48, 49, 50, 51, 52, 53, 54, 55, 56, 57]
def odds : List Nat := [32, 47, 44, 45, 43, 46, 126, 95, 10, 65, 69, 70, 120, 97, 98, 99, 100, 101, 102, 103, 104, 105, 108, 109, 110, 111, 112, 114, 115, 116, 121]
theorem figs_eq : ("0123456789" : Str) = tx figs := by decide +kernel
theorem emp_eq : ("" : Str) = tx [] := by decide +kernel
theorem zero_eq : ("0" : Str) = tx [48] := by decide +kernel
def okG (l : List Nat) : Prop := ∀ c ∈ l, c ∈ figs ++ odds
theorem okG_chr {l : List Nat} (h : okG l) : chrOk l = true := by
  unfold chrOk
  rw [List.all_eq_true]
  intro c hc
  have := h c hc
  have k : ∀ c ∈ figs ++ odds, (decide (c < 0x110000)) = true := by decide +kernel
  exact k c this
theorem mem_figs (c : Nat) : c ∈ figs ↔ (48 ≤ c ∧ c ≤ 57) := by
  unfold figs
  simp
  omega
def numB (l : List Nat) : Bool := l.all fun c => decide (c ∈ figs)
def badB (l : List Nat) : Bool := decide (l = []) || (decide (1 < l.length) && decide (l.head? = some 48))
def nuD (l : List Nat) : D := if badB l = true then .non else if numB l = true then .int ((NumText.digitsVal l : Nat) : Int) else .non
def nuBody : S := (sq (ifS (tsB (binA oNotIn (see (seeN 1)) (kA (.str "0123456789")))) (sq (retS (kT .non)) RS.nx) RS.nx) RS.nx)
theorem nu_loop (x : T) (l : List Nat) : ∀ u : T, ∃ u', loopS (Tg.n 1).put nuBody (l.map fun c => D.str (tx [c])) [x, u] = if numB l = true then .nx [x, u'] else .rt (.z .non) [x, u'] := by
  induction l with
  | nil => intro u; exact ⟨u, rfl⟩
  | cons c l ih =>
    intro u
    by_cases h : c ∈ figs
    · obtain ⟨u', e⟩ := ih (.z (.str (tx [c])))
      refine ⟨u', ?_⟩
      have en : numB (c :: l) = numB l := by unfold numB; rw [List.all_cons, decide_eq_true h, Bool.true_and]
      rw [List.map_cons, loopS_cons, en]
      unfold nuBody at e ⊢
      simp only [figs_eq] at e ⊢
      simp -implicitDefEqProofs [h, e]
    · refine ⟨.z (.str (tx [c])), ?_⟩
      have en : numB (c :: l) = false := by unfold numB; rw [List.all_cons, decide_eq_false h, Bool.false_and]
      rw [List.map_cons, loopS_cons, en]
      unfold nuBody
      simp -implicitDefEqProofs [figs_eq, h]
theorem oInt_tx {l : List Nat} (h0 : l ≠ []) (h1 : l.length ≤ 640) (h2 : numB l = true) : oInt (.str (tx l)) = some (.z (.int ((NumText.digitsVal l : Nat) : Int))) := by
  unfold oInt
  dsimp only
  have hd : NumText.AllDigits (tx l).cps.toList := by
    rw [tx_cps]
    intro c hc
    unfold numB at h2
    rw [List.all_eq_true] at h2
    exact (mem_figs c).mp (of_decide_eq_true (h2 c hc))
  rw [tx_length, if_pos h1, intText_digits hd (by rw [tx_cps]; exact h0) (by rw [tx_length]; omega), tx_cps]
theorem at_hd {α : Type} (c : α) (l : List α) (h : l.length < 1000000) : atI (c :: l) 0 = some c := by
  unfold atI
  simp
theorem number_ok (l : List Nat) (h : okG l) (hl : l.length ≤ 640) : m_number [.z (.str (tx l))] = .ok (.z (nuD l)) [.z (.str (tx l))] := by
  have e1 := oEq_tx (okG_chr h) (b := []) rfl
  have hlim : (l.length ≤ lim) = True := eq_true (by unfold lim; omega)
  obtain ⟨u', e⟩ := nu_loop (.z (.str (tx l))) l .gone
  unfold nuBody at e
  unfold m_number b_number nuD badB
  cases l with
  | nil => simp -implicitDefEqProofs [emp_eq, e1]
  | cons c r =>
    have ha : oIx (.str (tx (c :: r))) (.int 0) = some (.z (.str (tx [c]))) := by rw [oIx_tx _ _ (by unfold lim; omega), at_hd c r (by rw [List.length_cons] at hl; omega)]; rfl
    have e2 := oEq_tx (a := [c]) (b := [48]) (okG_chr fun x hx => h x (by rw [List.mem_singleton.mp hx]; exact List.mem_cons_self)) rfl
    have hr : r.length ≤ lim := by rw [List.length_cons] at hl; unfold lim; omega
    have hr2 : r.length + 1 ≤ lim := by rw [List.length_cons] at hl; unfold lim; omega
    have e3 := fun q => oInt_tx (l := c :: r) (by simp) (by omega) q
    simp at e1 e2 e
    by_cases h1 : 0 < r.length
    · have h1' : 1 < (r.length : Int) + 1 := by omega
      by_cases h2 : c = 48
      · subst h2
        simp -implicitDefEqProofs [emp_eq, zero_eq, e1, ha, hr2, h1', e2, h1]
      · cases hn : numB (c :: r) with
        | true =>
          rw [hn] at e
          simp at e
          simp -implicitDefEqProofs [emp_eq, zero_eq, e1, ha, hr2, h1', e2, h2, e, e3 hn]
        | false =>
          rw [hn] at e
          simp at e
          simp -implicitDefEqProofs [emp_eq, zero_eq, e1, ha, hr2, h1', e2, h2, e]
    · have h1' : ¬ 1 < (r.length : Int) + 1 := by omega
      cases hn : numB (c :: r) with
      | true =>
        rw [hn] at e
        simp at e
        simp -implicitDefEqProofs [emp_eq, zero_eq, e1, hr2, h1', e, e3 hn, h1]
      | false =>
        rw [hn] at e
        simp at e
        simp -implicitDefEqProofs [emp_eq, zero_eq, e1, hr2, h1', e, h1]
theorem find_ok : ∀ c ∈ figs ++ odds, Txt.find (tx figs) (tx [c]) = if c ∈ figs then (c : Int) - 48 else -1 := by decide +kernel
def lnBody : S := (sq (setS 3 (fzM (binZ oFind (recvS (zT (kT (.str "0123456789")))) (see (seeN 2))))) (sq (ifS (tsB (binA oLt (see (seeN 3)) (kA (.int 0)))) (sq (retS (kT .non)) RS.nx) RS.nx) (sq (setS 1 (fzM (binA oAdd (zT (binA oMul (see (seeN 1)) (kA (.int 10)))) (seeN 3)))) RS.nx)))
def valF (m : Nat) (l : List Nat) : Nat := l.foldl (fun acc c => acc * 10 + (c - 48)) m
theorem ln_loop (x : T) (l : List Nat) (hl : okG l) : ∀ (m : Nat) (u v : T), ∃ (n : T) (u' v' : T), loopS (Tg.n 2).put lnBody (l.map fun c => D.str (tx [c])) [x, .z (.int m), u, v] = if numB l = true then .nx [x, .z (.int (valF m l)), u', v'] else .rt (.z .non) [x, n, u', v'] := by
  induction l with
  | nil => intro m u v; exact ⟨u, u, v, rfl⟩
  | cons c l ih =>
    intro m u v
    have hc := find_ok c (hl c List.mem_cons_self)
    by_cases h : c ∈ figs
    · rw [if_pos h] at hc
      have h48 := (mem_figs c).mp h
      obtain ⟨n, u', v', e⟩ := ih (fun y hy => hl y (List.mem_cons_of_mem _ hy)) (m * 10 + (c - 48)) (.z (.str (tx [c]))) (.z (.int ((c : Int) - 48)))
      have ec : ((m * 10 + (c - 48) : Nat) : Int) = m * 10 + ((c : Int) - 48) := by omega
      rw [ec] at e
      refine ⟨n, u', v', ?_⟩
      have en : numB (c :: l) = numB l := by unfold numB; rw [List.all_cons, decide_eq_true h, Bool.true_and]
      have ev : valF m (c :: l) = valF (m * 10 + (c - 48)) l := rfl
      have h0 : ¬ ((c : Int) - 48 < 0) := by omega
      rw [List.map_cons, loopS_cons, en, ev]
      unfold lnBody at e ⊢
      simp only [figs_eq] at e ⊢
      simp -implicitDefEqProofs [hc, e, small_10, h0]
    · rw [if_neg h] at hc
      refine ⟨.z (.int m), .z (.str (tx [c])), .z (.int (-1)), ?_⟩
      have en : numB (c :: l) = false := by unfold numB; rw [List.all_cons, decide_eq_false h, Bool.false_and]
      rw [List.map_cons, loopS_cons, en]
      unfold lnBody
      simp -implicitDefEqProofs [figs_eq, hc]
theorem law_number_ok (l : List Nat) (h : okG l) (hl : l.length ≤ 640) : m_law_number [.z (.str (tx l))] = .ok (.z (nuD l)) [.z (.str (tx l))] := by
  have e1 := oEq_tx (okG_chr h) (b := []) rfl
  obtain ⟨n, u', v', e⟩ := ln_loop (.z (.str (tx l))) l h 0 .gone .gone
  have ez : valF 0 l = NumText.digitsVal l := rfl
  rw [ez] at e
  unfold lnBody at e
  simp only [figs_eq] at e
  unfold m_law_number b_law_number nuD badB
  cases l with
  | nil => simp -implicitDefEqProofs [emp_eq, e1]
  | cons c r =>
    have ha : oIx (.str (tx (c :: r))) (.int 0) = some (.z (.str (tx [c]))) := by rw [oIx_tx _ _ (by unfold lim; omega), at_hd c r (by rw [List.length_cons] at hl; omega)]; rfl
    have e2 := oEq_tx (a := [c]) (b := [48]) (okG_chr fun x hx => h x (by rw [List.mem_singleton.mp hx]; exact List.mem_cons_self)) rfl
    have hr2 : r.length + 1 ≤ lim := by rw [List.length_cons] at hl; unfold lim; omega
    simp at e1 e2 e
    by_cases h1 : 0 < r.length
    · have h1' : 1 < (r.length : Int) + 1 := by omega
      by_cases h2 : c = 48
      · subst h2
        simp -implicitDefEqProofs [emp_eq, zero_eq, e1, ha, hr2, h1', e2, h1]
      · cases hn : numB (c :: r) with
        | true =>
          rw [hn] at e
          simp at e
          simp -implicitDefEqProofs [figs_eq, emp_eq, zero_eq, e1, ha, hr2, h1', e2, h2, e]
        | false =>
          rw [hn] at e
          simp at e
          simp -implicitDefEqProofs [figs_eq, emp_eq, zero_eq, e1, ha, hr2, h1', e2, h2, e]
    · have h1' : ¬ 1 < (r.length : Int) + 1 := by omega
      cases hn : numB (c :: r) with
      | true =>
        rw [hn] at e
        simp at e
        simp -implicitDefEqProofs [figs_eq, emp_eq, zero_eq, e1, hr2, h1', e, h1]
      | false =>
        rw [hn] at e
        simp at e
        simp -implicitDefEqProofs [figs_eq, emp_eq, zero_eq, e1, hr2, h1', e, h1]
def dg (n : Int) : Str := Str.ofString (toString n)
def big : Int := 10 ^ 30
theorem dg_tx (n : Nat) : dg n = tx (TL.numL n) := by
  have := TL.tl_num n
  unfold dg
  rw [← this]
  exact (tx_of _).symm
theorem numL_len31 {n : Nat} (h : (n : Int) < big) : (TL.numL n).length ≤ 30 := TL.numL_len (by omega) (by unfold big at h; omega)
theorem oStr_ok {n : Int} (h0 : 0 ≤ n) (h : n < big) : oStr (.int n) = some (.z (.str (dg n))) := by
  have : n.natAbs < oStr.bigS := by
    have h1 : n.natAbs < 10 ^ 30 := by unfold big at h; omega
    exact Nat.lt_of_lt_of_le h1 (by decide +kernel)
  unfold oStr
  dsimp only
  rw [if_pos this]; rfl
def okN (l : List Int) : Prop := ∀ x ∈ l, 0 ≤ x ∧ x < big
def dgs (l : List Int) : List Str := l.map dg
def setW (S : List (List Int)) : List Str := S.flatMap fun m => ("/" : Str) :: dgs m
inductive WF : Str → List D → List Str → Prop
  | plain {w : Str} {l : List Int} : (w = "fell" ∨ w = "clear") ∧ l.length = 1 ∨ (w = "lend" ∨ w = "pay") ∧ l.length = 2 → okN l → WF w (nD l) (dgs l)
  | some {w : Str} {l : List Int} : w = "storm" ∨ w = "find" → l ≠ [] → l.length ≤ 60 → okN l → WF w [.tup (nD l)] (dgs l)
  | refit {ns : List Int} {S : List (List Int)} : okN ns → ns.length ≤ 10 → S.length ≤ 10 → (∀ m ∈ S, okN m ∧ m ≠ [] ∧ m.length ≤ 12) → (ns ≠ [] ∨ S ≠ []) → WF "refit" [.tup (nD ns), .tup (qD S)] (dgs ns ++ setW S)
def goodW (x : Str) : Prop := x.length ≤ 31 ∧ 32 ∉ TL.tl x
theorem dg_good {n : Int} (h0 : 0 ≤ n) (h : n < big) : goodW (dg n) := by
  obtain ⟨m, rfl⟩ : ∃ m : Nat, n = m := ⟨n.toNat, by omega⟩
  rw [dg_tx]
  refine ⟨by rw [tx_length]; have := numL_len31 h; omega, ?_⟩
  show 32 ∉ (tx _).cps.toList
  rw [tx_cps]
  exact TL.numL_free (by omega)
theorem dgs_good {l : List Int} (h : okN l) : ∀ x ∈ dgs l, goodW x := by
  intro x hx
  obtain ⟨n, hn, rfl⟩ := List.mem_map.mp hx
  exact dg_good (h n hn).1 (h n hn).2
theorem slash_good : goodW "/" := ⟨by decide, by decide +kernel⟩
theorem setW_good : ∀ {S : List (List Int)}, (∀ m ∈ S, okN m ∧ m ≠ [] ∧ m.length ≤ 12) → (∀ x ∈ setW S, goodW x) ∧ (setW S).length ≤ 13 * S.length
  | [], _ => ⟨fun _ h => (List.not_mem_nil h).elim, Nat.le_of_eq rfl⟩
  | m :: S, h => by
    obtain ⟨a, b⟩ := setW_good fun m hm => h m (List.mem_cons_of_mem _ hm)
    have e : setW (m :: S) = (("/" : Str) :: dgs m) ++ setW S := by unfold setW; rw [List.flatMap_cons]
    obtain ⟨h1, _, h3⟩ := h m List.mem_cons_self
    rw [e]
    refine ⟨fun x hx => ?_, ?_⟩
    · rcases List.mem_append.mp hx with hx | hx
      · rcases List.mem_cons.mp hx with rfl | hx
        · exact slash_good
        · exact dgs_good h1 x hx
      · exact a x hx
    · rw [List.length_append, List.length_cons, dgs, List.length_map, List.length_cons]; omega
theorem WF.good {w rest ws} (h : WF w rest ws) : (w :: ws).length ≤ 200 ∧ ∀ x ∈ w :: ws, goodW x := by
  have wg : ∀ x : Str, x ∈ (["fell", "clear", "lend", "pay", "storm", "find", "refit"] : List Str) → goodW x := by
    intro x hx
    have : ∀ x ∈ (["fell", "clear", "lend", "pay", "storm", "find", "refit"] : List Str), x.length ≤ 31 ∧ 32 ∉ TL.tl x := by decide +kernel
    exact this x hx
  have mk : ∀ {w : Str} {ws : List Str}, w ∈ (["fell", "clear", "lend", "pay", "storm", "find", "refit"] : List Str) → (∀ x ∈ ws, goodW x) → ∀ x ∈ w :: ws, goodW x := fun hw hg x hx => by
    rcases List.mem_cons.mp hx with rfl | hx
    · exact wg _ hw
    · exact hg x hx
  cases h with
  | @plain _ l h hl =>
    refine ⟨?_, mk ?_ (dgs_good hl)⟩
    · rw [List.length_cons, dgs, List.length_map]; omega
    · rcases h with ⟨rfl | rfl, _⟩ | ⟨rfl | rfl, _⟩ <;> decide
  | @some _ l h h0 h1 hl =>
    refine ⟨?_, mk ?_ (dgs_good hl)⟩
    · rw [List.length_cons, dgs, List.length_map]; omega
    · rcases h with rfl | rfl <;> decide
  | @refit ns S h1 h2 h3 h4 h5 =>
    obtain ⟨a, b⟩ := setW_good h4
    refine ⟨?_, mk (by decide) fun x hx => ?_⟩
    · rw [List.length_cons, List.length_append, dgs, List.length_map]; omega
    · rcases List.mem_append.mp hx with hx | hx
      · exact dgs_good h1 x hx
      · exact a x hx
theorem sum_le_c {c : Nat} : ∀ {l : List Str}, (∀ x ∈ l, x.length ≤ c) → (l.map (·.length)).sum ≤ c * l.length
  | [], _ => by simp
  | x :: l, h => by
    have a := sum_le_c (c := c) fun x hx => h x (List.mem_cons_of_mem _ hx)
    have b := h x List.mem_cons_self
    rw [List.map_cons, List.sum_cons, List.length_cons, Nat.mul_succ]; omega
def textW (ws : List Str) : Str := Txt.join " " ws
theorem join_ok {ws : List Str} (h : ws.length ≤ 200) (g : ∀ x ∈ ws, goodW x) : oJoin (.str " ") (.lst (sD ws)) = some (.z (.str (textW ws))) := by
  rw [oJoin_sD]
  have := sum_le_c fun x hx => (g x hx).1
  refine if_pos ?_
  have e : (" " : Str).length = 1 := by decide
  rw [e]; omega
@[simp] theorem sD_length (l) : (sD l).length = l.length := List.length_map _
theorem at0 (x : D) (l : List D) (h : l.length < 1000) : atI (x :: l) 0 = some x := by
  unfold atI; simp
theorem cut1 (x : D) (l : List D) (h : l.length < 1000) : cutD (x :: l) (some 1) none = l := by
  unfold cutD HT.sIx
  have h1 : ¬ ((l.length : Int) + 1 < 1) := by omega
  simp
  try omega
theorem oSl_tup' (x : D) (l : List D) (hl : l.length < 1000) : oSl (.tup (x :: l)) (some 1) none = some (.z (.tup l)) := by
  show (if HT.sIx (l.length + 1) 0 (some 1) = 0 ∧ HT.sIx (l.length + 1) (l.length + 1) none = l.length + 1 then none else some (T.z (.tup (cutD (x :: l) (some 1) none)))) = _
  rw [if_neg, cut1 x l hl]
  rintro ⟨h, _⟩
  rw [show (some (1 : Int)) = some (((1 : Nat) : Int)) from rfl, HT.sIx_nat] at h
  omega
@[simp] theorem sT_app (a b) : sT a ++ sT b = sT (a ++ b) := by unfold sT; rw [List.map_append]
theorem dgs_len (l) : (dgs l).length = l.length := List.length_map _
theorem oAdd_sD (a b : List Str) (h : a.length + b.length ≤ lim) : oAdd (.lst (sD a)) (.lst (sD b)) = some (.l (sT (a ++ b))) := by
  rw [oAdd_lst, sD_length, sD_length, if_pos h, ← sD_sT]; simp [sD]
theorem dg_comp (vs : List Nat) (put) (me : M D) (l : List Int) (ts0 : List T) (h : ∀ n : Int, 0 ≤ n → n < big → (cTurn put (M.ret true) me (.int n) ts0).wipe vs = .ok (some (.str (dg n))) ts0) (hl : okN l) (ts : List T) (e : wipeT ts vs = ts0) : compR vs put (M.ret true) me (nD l) ts = .ok (sD (dgs l)) ts0 := by
  have : sD (dgs l) = l.map fun x => .str (dg x) := by unfold sD dgs; rw [List.map_map]; rfl
  rw [this]
  exact compR_map D.int (fun x => .str (dg x)) e fun x hx => h x (hl x hx).1 (hl x hx).2
theorem wr_loop (f u3 u5 : T) (S : List (List Int)) (hS : ∀ m ∈ S, okN m ∧ m ≠ [] ∧ m.length ≤ 12) : ∀ (ws : List Str) (t1 u u4 : T), t1 = .z (.lst (sD ws)) → ws.length + 13 * S.length ≤ 1000 → ∃ u' v', loopS (Tg.n 2).put l0_law_written (qD S) [f, t1, u, u3, u4, u5] = .nx [f, .z (.lst (sD (ws ++ setW S))), u', u3, v', u5] := by
  induction S with
  | nil => intro ws t1 u u4 e _; subst e; exact ⟨u, u4, by simp [setW, qD]⟩
  | cons m S ih =>
    intro ws t1 u u4 e0 hl
    subst e0
    rw [List.length_cons] at hl
    obtain ⟨h1, h2, h3⟩ := hS m List.mem_cons_self
    have d1 : (dgs m).length = m.length := List.length_map _
    have e2 : ws ++ setW (m :: S) = (ws ++ ([("/" : Str)]) ++ dgs m) ++ setW S := by unfold setW; rw [List.flatMap_cons]; simp
    have ha := oAdd_sD ws ["/"] (by unfold lim; simp; omega)
    have hb := oAdd_sD (ws ++ ([("/" : Str)])) (dgs m) (by rw [d1]; unfold lim; simp; omega)
    have hs : [D.str "/"] = sD ["/"] := rfl
    have hc := dg_comp [4] (Tg.n 4).put (zT (un1 oStr (see (seeN 4)))) m [f, .z (.lst (sD ws)), .z (.tup (nD m)), u3, .gone, u5] (fun n a b => by
      have := oStr_ok a b
      simp -implicitDefEqProofs [this]) h1 [f, .z (.lst (sD ws)), .z (.tup (nD m)), u3, u4, u5] rfl
    obtain ⟨u', v', ih⟩ := ih (fun m hm => hS m (List.mem_cons_of_mem _ hm)) (ws ++ ([("/" : Str)]) ++ dgs m) _ (.z (.tup (nD m))) .gone rfl (by simp [d1]; omega)
    refine ⟨u', v', ?_⟩
    rw [e2, ← ih]
    have e3 : qD (m :: S) = .tup (nD m) :: qD S := rfl
    have l1 : (dgs m).length ≤ lim := by unfold lim; omega
    generalize hz : ws ++ ([("/" : Str)]) = z at *
    generalize hz2 : dgs m = z2 at *
    rw [e3, loopS_cons]
    unfold l0_law_written
    simp -implicitDefEqProofs [hc, l1, hs, ha, hb]
theorem written_ok {w rest ws} (h : WF w rest ws) : m_law_written [.z (fct w rest)] = .ok (.z (.str (textW (w :: ws)))) [.z (fct w rest)] := by
  obtain ⟨g1, g2⟩ := h.good
  have ej := join_ok g1 g2
  have s1 : [D.str w] = sD [w] := rfl
  cases h with
  | @plain _ l h hn =>
    have hl2 : l.length ≤ 2 := by omega
    have a0 := at0 (.str w) (nD l) (by rw [nD_length]; omega)
    have l2 : (dgs l).length ≤ lim := by rw [dgs_len]; unfold lim; omega
    have o := oEq_strs w "refit" (by rcases h with ⟨rfl | rfl, _⟩ | ⟨rfl | rfl, _⟩ <;> decide +kernel) (by decide +kernel)
    have o2 := oIn_2 w "storm" "find"
    have n1 : w ≠ "refit" := by rcases h with ⟨rfl | rfl, _⟩ | ⟨rfl | rfl, _⟩ <;> decide
    have n2 : "storm" ≠ w := by rcases h with ⟨rfl | rfl, _⟩ | ⟨rfl | rfl, _⟩ <;> decide
    have n3 : "find" ≠ w := by rcases h with ⟨rfl | rfl, _⟩ | ⟨rfl | rfl, _⟩ <;> decide
    rw [decide_eq_false n1] at o
    rw [decide_eq_false n2, decide_eq_false n3] at o2
    have os := oSl_tup' (.str w) (nD l) (by rw [nD_length]; omega)
    have hc := dg_comp [5] (Tg.n 5).put (zT (un1 oStr (see (seeN 5)))) l [.z (.tup (.str w :: nD l)), .z (.lst (sD [w])), .gone, .gone, .gone, .gone] (fun n a b => by
      have := oStr_ok a b
      simp -implicitDefEqProofs [this]) hn [.z (.tup (.str w :: nD l)), .z (.lst (sD [w])), .gone, .gone, .gone, .gone] rfl
    have ha := oAdd_sD [w] (dgs l) (by rw [dgs_len]; unfold lim; simp; omega)
    have ss : w :: dgs l = [w] ++ dgs l := rfl
    rw [ss] at ej ⊢
    generalize hz : [w] ++ dgs l = z at *
    generalize dgs l = dl at *
    unfold m_law_written b_law_written fct
    simp -implicitDefEqProofs [hc, a0, o, o2, ej, s1, os, l2, ha]
  | @some _ l h h0 h1 hn =>
    have a0 := at0 (.str w) [.tup (nD l)] (by simp)
    have a1 : atI [.str w, D.tup (nD l)] 1 = some (.tup (nD l)) := rfl
    have l2 : (dgs l).length ≤ lim := by rw [dgs_len]; unfold lim; omega
    have o := oEq_strs w "refit" (by rcases h with rfl | rfl <;> decide +kernel) (by decide +kernel)
    have o2 := oIn_2 w "storm" "find"
    have n1 : w ≠ "refit" := by rcases h with rfl | rfl <;> decide
    rw [decide_eq_false n1] at o
    have n2 : (decide ("storm" = w) || decide ("find" = w)) = true := by rcases h with rfl | rfl <;> decide
    rw [n2] at o2
    have hc := dg_comp [4] (Tg.n 4).put (zT (un1 oStr (see (seeN 4)))) l [.z (.tup [.str w, .tup (nD l)]), .z (.lst (sD [w])), .gone, .gone, .gone, .gone] (fun n a b => by
      have := oStr_ok a b
      simp -implicitDefEqProofs [this]) hn [.z (.tup [.str w, .tup (nD l)]), .z (.lst (sD [w])), .gone, .gone, .gone, .gone] rfl
    have ha := oAdd_sD [w] (dgs l) (by rw [dgs_len]; unfold lim; simp; omega)
    have ss : w :: dgs l = [w] ++ dgs l := rfl
    rw [ss] at ej ⊢
    generalize hz : [w] ++ dgs l = z at *
    generalize dgs l = dl at *
    unfold m_law_written b_law_written fct
    simp -implicitDefEqProofs [hc, a0, a1, o, o2, ej, s1, l2, ha]
  | @refit ns S h1 h2 h3 h4 h5 =>
    have a0 : atI [D.str "refit", D.tup (nD ns), .tup (qD S)] 0 = some (.str "refit") := rfl
    have a1 : atI [D.str "refit", D.tup (nD ns), .tup (qD S)] 1 = some (.tup (nD ns)) := rfl
    have a2 : atI [D.str "refit", D.tup (nD ns), .tup (qD S)] 2 = some (.tup (qD S)) := rfl
    have l2 : (dgs ns).length ≤ lim := by rw [dgs_len]; unfold lim; omega
    have o := oEq_strs "refit" "refit" (by decide +kernel) (by decide +kernel)
    rw [decide_eq_true rfl] at o
    have hc := dg_comp [3] (Tg.n 3).put (zT (un1 oStr (see (seeN 3)))) ns [.z (.tup [.str "refit", .tup (nD ns), .tup (qD S)]), .z (.lst (sD ["refit"])), .gone, .gone, .gone, .gone] (fun n a b => by
      have := oStr_ok a b
      simp -implicitDefEqProofs [this]) h1 [.z (.tup [.str "refit", .tup (nD ns), .tup (qD S)]), .z (.lst (sD ["refit"])), .gone, .gone, .gone, .gone] rfl
    have ha := oAdd_sD ["refit"] (dgs ns) (by rw [dgs_len]; unfold lim; simp; omega)
    have ss : ("refit" : Str) :: (dgs ns ++ setW S) = [("refit" : Str)] ++ dgs ns ++ setW S := by simp
    have s2 : ([("refit" : Str)] ++ dgs ns).length + 13 * S.length ≤ 1000 := by rw [List.length_append, dgs_len]; simp; omega
    obtain ⟨u', v', hsh⟩ := wr_loop (.z (.tup [.str "refit", .tup (nD ns), .tup (qD S)])) .gone .gone S h4 ([("refit" : Str)] ++ dgs ns) _ .gone .gone rfl s2
    rw [ss] at ej ⊢
    generalize hz2 : [("refit" : Str)] ++ dgs ns = z2 at *
    generalize hz : z2 ++ setW S = z at *
    generalize dgs ns = dl at *
    unfold m_law_written b_law_written fct
    simp -implicitDefEqProofs [hc, a0, a1, a2, o, ej, s1, l2, ha, hsh]

theorem numL_ok (n : Nat) : okG (TL.numL n) := fun c hc => by
  have := (mem_figs c).mpr (TL.numL_digits n c hc)
  exact List.mem_append_left _ this
theorem dg_strOk {n : Int} (h0 : 0 ≤ n) : PyData.strOk (dg n) = true := by
  obtain ⟨m, rfl⟩ : ∃ m : Nat, n = m := ⟨n.toNat, by omega⟩
  rw [dg_tx]
  have := okG_chr (numL_ok m)
  unfold PyData.strOk tx
  simpa [chrOk] using this
def pcF : List (List Str) → List Str → List Str → List (List Str)
  | Q, p, [] => Q ++ [p]
  | Q, p, w :: ws => if w = "/" then pcF (Q ++ [p]) [] ws else pcF Q (p ++ [w]) ws
def pT (P : List (List Str)) : List T := P.map fun p => .l (sT p)
def pDD (P : List (List Str)) : List D := P.map fun p => .lst (sD p)
@[simp] theorem pT_len (P) : (pT P).length = P.length := List.length_map _
@[simp] theorem fzs_pT : ∀ P, T.fzs (pT P) = some (pDD P)
  | [] => rfl
  | p :: P => by
    show T.fzs (.l (sT p) :: pT P) = _
    rw [fzs_cons, fzs_pT P, fz_l_eq, fzs_sT]; rfl
theorem ixN_last (n : Nat) : ixN (n + 1) (-1) = some n := by
  unfold ixN
  simp
  try omega
theorem pc_loop (x : T) (L : Nat) (hL : L ≤ 1000) : ∀ (ws : List Str) (Q : List (List Str)) (p : List Str) (u : T), (∀ w ∈ ws, PyData.strOk w = true) → Q.length + p.length + ws.length ≤ L → ∃ u', loopS (Tg.n 2).put l0_pieces_of (sD ws) [x, .l (pT (Q ++ [p])), u] = .nx [x, .l (pT (pcF Q p ws)), u']
  | [], Q, p, u, _, _ => ⟨u, rfl⟩
  | w :: ws, Q, p, u, h, hl => by
    rw [List.length_cons] at hl
    have o := oEq_strs w "/" (h w List.mem_cons_self) (by decide +kernel)
    have e3 : sD (w :: ws) = .str w :: sD ws := rfl
    by_cases hw : w = "/"
    · obtain ⟨u', ih⟩ := pc_loop x L hL ws (Q ++ [p]) [] (.z (.str w)) (fun y hy => h y (List.mem_cons_of_mem _ hy)) (by rw [List.length_append]; simp at hl ⊢; omega)
      refine ⟨u', ?_⟩
      rw [pcF, if_pos hw, ← ih, e3, loopS_cons]
      rw [decide_eq_true hw] at o
      have l1 : (Q ++ [p]).length < lim := by rw [List.length_append]; unfold lim; simp; omega
      have e4 : pT (Q ++ [p] ++ [[]]) = pT (Q ++ [p]) ++ [.l []] := by unfold pT; rw [List.map_append]; rfl
      rw [e4]
      generalize hz : pT (Q ++ [p]) = z at *
      have l2 : z.length < lim := by rw [← hz, pT_len]; exact l1
      unfold l0_pieces_of
      simp -implicitDefEqProofs [o, l2]
    · obtain ⟨u', ih⟩ := pc_loop x L hL ws Q (p ++ [w]) (.z (.str w)) (fun y hy => h y (List.mem_cons_of_mem _ hy)) (by rw [List.length_append]; simp at hl ⊢; omega)
      refine ⟨u', ?_⟩
      rw [pcF, if_neg hw, ← ih, e3, loopS_cons]
      rw [decide_eq_false hw] at o
      have e4 : pT (Q ++ [p ++ [w]]) = (pT (Q ++ [p])).set Q.length (.l (sT p ++ [.z (.str w)])) := by
        unfold pT; rw [List.map_append, List.map_append]
        rw [List.set_append_right _ _ (by rw [List.length_map]; omega)]
        simp [sT]
      have at_ : (pT (Q ++ [p]))[Q.length]? = some (.l (sT p)) := by unfold pT; rw [List.map_append, List.getElem?_append_right (by rw [List.length_map]; omega)]; simp
      have hnap := napD_at (i := 1) (ts := [x, .l (pT (Q ++ [p])), .z (.str w)]) (j := -1) (y := .str w) (k := Q.length) rfl (by rw [pT_len, List.length_append]; exact ixN_last _) at_ (by rw [sT_length]; unfold lim; omega) rfl
      rw [← e4] at hnap
      unfold l0_pieces_of
      simp -implicitDefEqProofs [o, hnap]
theorem pieces_of_ok (ws : List Str) (h : ∀ w ∈ ws, PyData.strOk w = true) (hl : ws.length ≤ 900) : m_pieces_of [.z (.lst (sD ws))] = .ok (.l (pT (pcF [] [] ws))) [.z (.lst (sD ws))] := by
  obtain ⟨u', e⟩ := pc_loop (.z (.lst (sD ws))) 1000 (by omega) ws [] [] .gone h (by simp; omega)
  have e0 : [T.l []] = pT [[]] := rfl
  rw [show ([] : List (List Str)) ++ [[]] = [[]] from rfl] at e
  unfold m_pieces_of b_pieces_of
  generalize hz : sD ws = z at *
  generalize pT (pcF [] [] ws) = r at *
  simp -implicitDefEqProofs [e0, e]
theorem okq_sD {p : List Str} (h : ∀ w ∈ p, PyData.strOk w = true) (k : Nat) : okd (k + 1) (.lst (sD p)) = true := by
  rw [okd, okds_iff]
  intro d hd
  obtain ⟨w, hw, rfl⟩ := List.mem_map.mp hd
  cases k with
  | zero => exact h w hw
  | succ k => exact h w hw
theorem joinL_len (sep : List Nat) : ∀ l : List (List Nat), (TL.joinL sep l).length ≤ (l.map (·.length)).sum + l.length * sep.length
  | [] => by simp [TL.joinL]
  | [p] => by simp [TL.joinL]
  | p :: q :: r => by
    have ih := joinL_len sep (q :: r)
    rw [TL.joinL, List.length_append, List.length_append, List.map_cons, List.sum_cons, List.length_cons, Nat.succ_mul]
    omega
theorem oNe_strs (a b : Str) (ha : PyData.strOk a = true) (hb : PyData.strOk b = true) : oNe (.str a) (.str b) = some (.z (.bl (!decide (a = b)))) := by
  unfold oNe
  rw [if_pos ⟨okq_str ha, okq_str hb⟩]
  have : eqd (.str a) (.str b) = (a == b) := by unfold eqd pyD; rw [D.py, D.py]; show PyData.eqv (.str a) (.str b) = _; rw [PyData.eqv]
  rw [this]
  by_cases h : a = b
  · subst h; simp
  · rw [decide_eq_false h, beq_eq_false_iff_ne.mpr h]
theorem okN_1 {n : Int} (h0 : 0 ≤ n) (h : n < big) : okN [n] := fun x hx => by rw [List.mem_singleton.mp hx]; exact ⟨h0, h⟩
theorem okN_2 {n m : Int} (h0 : 0 ≤ n) (h : n < big) (h1 : 0 ≤ m) (h2 : m < big) : okN [n, m] := fun x hx => by
  rcases List.mem_cons.mp hx with rfl | hx
  · exact ⟨h0, h⟩
  · rw [List.mem_singleton.mp hx]; exact ⟨h1, h2⟩
theorem okN_of {l : List Int} {lo hi : Int} (h0 : 0 ≤ lo) (h1 : hi < 1000000000000000000) (h : ∀ x ∈ l, lo ≤ x ∧ x ≤ hi) : okN l := fun x hx => by
  have := h x hx
  exact ⟨by omega, by unfold big; omega⟩
theorem DF.wf {s : Int} (hs : s ≤ 12) {w : Str} {rest : List D} (h : DF s w rest) : ∃ ws, WF w rest ws := by
  cases h with
  | @fell n h1 h2 => exact ⟨_, .plain (l := [n]) (.inl ⟨.inl rfl, rfl⟩) (okN_1 (by omega) (by unfold big; omega))⟩
  | @clear n h1 h2 => exact ⟨_, .plain (l := [n]) (.inl ⟨.inr rfl, rfl⟩) (okN_1 (by omega) (by unfold big; omega))⟩
  | @money w n c h1 h2 h3 h4 h5 => exact ⟨_, .plain (l := [n, c]) (.inr ⟨h1, rfl⟩) (okN_2 (by omega) (by unfold big; omega) (by omega) (by unfold big; omega))⟩
  | @some w l h1 h2 h3 h4 => exact ⟨_, .some h1 h2 (len_60 h3 h4) (okN_of (by omega) (by omega) h4)⟩
  | @refit names sets R =>
    refine ⟨_, .refit (okN_of (by omega) (by omega) R.nr) (by have := R.nl; omega) (by have := R.sl; omega) (fun m hm => ?_) R.ne⟩
    have a := R.sn m hm
    exact ⟨okN_of (lo := 1) (hi := 60) (by omega) (by omega) fun x hx => R.sr x (List.mem_flatten.mpr ⟨m, hm, hx⟩), a.1, by omega⟩
theorem atoms_nD : ∀ l : List Int, D.atoms (nD l) = true
  | [] => rfl
  | x :: l => by rw [nD_cons, D.atoms, atoms_nD l]; rfl
theorem atoms_qD : ∀ S : List (List Int), D.atoms (qD S) = true
  | [] => rfl
  | m :: S => by
    show D.atoms (.tup (nD m) :: qD S) = true
    rw [D.atoms, atoms_qD S, D.atom, atoms_nD]; rfl
theorem joinL_all (P : Nat → Bool) (sep : List Nat) (hs : sep.all P = true) : ∀ l : List (List Nat), (∀ x ∈ l, x.all P = true) → (TL.joinL sep l).all P = true
  | [], _ => rfl
  | [p], h => h p List.mem_cons_self
  | p :: q :: r, h => by
    rw [TL.joinL, List.all_append, List.all_append, hs, h p List.mem_cons_self, joinL_all P sep hs (q :: r) fun x hx => h x (List.mem_cons_of_mem _ hx)]; rfl
theorem strOk_tl (x : Str) : PyData.strOk x = (TL.tl x).all (· < 0x110000) := by
  unfold PyData.strOk
  exact (Array.all_toList).symm
theorem WF.sok {w rest ws} (h : WF w rest ws) : ∀ x ∈ w :: ws, PyData.strOk x = true := by
  have dso : ∀ {l : List Int}, okN l → ∀ w ∈ dgs l, PyData.strOk w = true := fun hl w hw => by
    obtain ⟨n, hn, rfl⟩ := List.mem_map.mp hw
    exact dg_strOk (hl n hn).1
  have wo : ∀ x ∈ (["fell", "clear", "lend", "pay", "storm", "find", "refit"] : List Str), PyData.strOk x = true := by decide +kernel
  have mk : ∀ {w : Str} {ws : List Str}, w ∈ (["fell", "clear", "lend", "pay", "storm", "find", "refit"] : List Str) → (∀ x ∈ ws, PyData.strOk x = true) → ∀ x ∈ w :: ws, PyData.strOk x = true := fun hw hg x hx => by
    rcases List.mem_cons.mp hx with rfl | hx
    · exact wo _ hw
    · exact hg x hx
  cases h with
  | @plain _ l h hl => exact mk (by rcases h with ⟨rfl | rfl, _⟩ | ⟨rfl | rfl, _⟩ <;> decide) (dso hl)
  | @some _ l h h0 h1 hl => exact mk (by rcases h with rfl | rfl <;> decide) (dso hl)
  | @refit ns S h1 h2 h3 h4 h5 =>
    refine mk (by decide) fun x hx => ?_
    rcases List.mem_append.mp hx with hx | hx
    · exact dso h1 x hx
    · obtain ⟨m, hm, hx⟩ := List.mem_flatMap.mp hx
      rcases List.mem_cons.mp hx with rfl | hx
      · decide +kernel
      · exact dso (h4 m hm).1 x hx
theorem okm_str (k : Nat) (x : Str) : okm k (.str x) = PyData.strOk x := by cases k <;> rfl
theorem WF.okm {w rest ws} (h : WF w rest ws) : Ar.okm 5 (fct w rest) = true := by
  have hw : PyData.strOk w = true := h.sok w List.mem_cons_self
  have hq : ∀ S : List (List Int), (∀ m ∈ S, m.length ≤ 12) → (qD S).all (Ar.okm 3) = true := fun S hS => by
    rw [List.all_eq_true]
    intro d hd
    obtain ⟨m, hm, rfl⟩ := List.mem_map.mp hd
    have := hS m hm
    rw [okm_tup, okm_nD, nD_length, decide_eq_true (by omega)]; rfl
  unfold fct
  cases h with
  | @plain _ l h hl =>
    have : l.length ≤ 2 := by omega
    rw [okm_tup, List.all_cons, okm_str, hw, okm_nD, decide_eq_true (by rw [List.length_cons, nD_length]; omega)]; rfl
  | @some _ l h h0 h1 hl =>
    rw [okm_tup, List.all_cons, okm_str, hw, List.all_cons, okm_tup, okm_nD, nD_length, decide_eq_true (p := l.length ≤ 1000000) (by omega)]; rfl
  | @refit ns S h1 h2 h3 h4 h5 =>
    rw [okm_tup, List.all_cons, okm_str, hw, List.all_cons, okm_tup, okm_nD, nD_length, decide_eq_true (p := ns.length ≤ 1000000) (by omega), List.all_cons, okm_tup, hq S (fun m hm => (h4 m hm).2.2), qD_length, decide_eq_true (p := S.length ≤ 1000000) (by omega)]; rfl
end Ar
namespace Ar
open PySem PySem.Spec PyProof.Rows L2
/-! words, whatever they are -/
def wOk (w : Str) : Prop := okG (TL.tl w) ∧ w.length ≤ 640
theorem wOk_str {w : Str} (h : wOk w) : PyData.strOk w = true := by
  rw [strOk_tl]; exact okG_chr h.1
def nO (w : Str) : Option Int := if badB (TL.tl w) = true then none else if numB (TL.tl w) = true then some ((NumText.digitsVal (TL.tl w) : Nat) : Int) else none
def oI : Option Int → D
  | some n => .int n
  | none => .non
theorem nuD_oI (w : Str) : nuD (TL.tl w) = oI (nO w) := by
  unfold nuD nO
  split
  · rfl
  · split <;> rfl
theorem number_w {w : Str} (h : wOk w) : m_number [.z (.str w)] = .ok (.z (oI (nO w))) [.z (.str w)] := by
  have := number_ok (TL.tl w) h.1 (by rw [← TL.len_tl]; exact h.2)
  rw [nuD_oI, show tx (TL.tl w) = w from tx_of w] at this
  exact this
theorem law_number_w {w : Str} (h : wOk w) : m_law_number [.z (.str w)] = .ok (.z (oI (nO w))) [.z (.str w)] := by
  have := law_number_ok (TL.tl w) h.1 (by rw [← TL.len_tl]; exact h.2)
  rw [nuD_oI, show tx (TL.tl w) = w from tx_of w] at this
  exact this
def nsO : List Str → Option (List Int)
  | [] => some []
  | w :: ws => match nO w, nsO ws with
    | some n, some l => some (n :: l)
    | _, _ => none
def osD (ws : List Str) : List D := ws.map fun w => oI (nO w)
theorem nsO_some : ∀ {ws : List Str} {l : List Int}, nsO ws = some l → osD ws = nD l ∧ ws.length = l.length
  | [], l, h => by cases h; exact ⟨rfl, rfl⟩
  | w :: ws, l, h => by
    rw [nsO] at h
    cases q1 : nO w with
    | none => rw [q1] at h; cases h
    | some n => cases q2 : nsO ws with
      | none => rw [q1, q2] at h; cases h
      | some r =>
        rw [q1, q2] at h; cases h
        obtain ⟨a, b⟩ := nsO_some q2
        refine ⟨?_, by rw [List.length_cons, List.length_cons, b]⟩
        show oI (nO w) :: osD ws = _
        rw [q1, a]; rfl
theorem oI_flat (o) : flatD (oI o) = true := by cases o <;> rfl
theorem nonIn : ∀ ws : List Str, ((osD ws).any fun z => eqf z .non) = (nsO ws).isNone
  | [] => rfl
  | w :: ws => by
    show (eqf (oI (nO w)) .non || (osD ws).any fun z => eqf z .non) = _
    rw [nonIn ws, nsO]
    cases nO w with
    | none => rfl
    | some n => cases nsO ws <;> rfl
theorem oIn_os (ws : List Str) : oIn .non (.lst (osD ws)) = some (.z (.bl (nsO ws).isNone)) := by
  have f : (osD ws).all flatD = true := by
    rw [List.all_eq_true]; intro d hd; obtain ⟨w, _, rfl⟩ := List.mem_map.mp hd; exact oI_flat _
  unfold oIn inD
  dsimp only
  rw [if_pos ⟨rfl, f⟩, nonIn]
def rNs (ws : List Str) (t : List T) : R T := match nsO ws with
  | some l => .ok (.z (.tup (nD l))) t
  | none => .ex "BadText" t
theorem numbers_gen (ws : List Str) (h : ∀ w ∈ ws, wOk w) (hl : ws.length ≤ 1000) : m_numbers_of [.z (.lst (sD ws))] = rNs ws [.z (.lst (sD ws))] := by
  have e : compR [2] (Tg.n 2).put (M.ret true) (zT (callM m_number [none] (argEx (rdz 2) (M.ret [])))) (sD ws) [.z (.lst (sD ws)), .gone, .gone] = .ok (osD ws) [.z (.lst (sD ws)), .gone, .gone] := by
    generalize hz : T.z (.lst (sD ws)) = z
    refine compR_map D.str (fun w => oI (nO w)) rfl fun w hw => ?_
    have := number_w (h w hw)
    generalize oI (nO w) = d at *
    simp -implicitDefEqProofs [this]
  have lo : (osD ws).length ≤ lim := by unfold osD lim; rw [List.length_map]; omega
  have o := oIn_os ws
  unfold rNs
  cases q : nsO ws with
  | none =>
    rw [q] at o
    unfold m_numbers_of b_numbers_of
    generalize sD ws = z at *
    generalize osD ws = y at *
    simp -implicitDefEqProofs [e, lo, o]
  | some l =>
    rw [q] at o
    obtain ⟨a, b⟩ := nsO_some q
    rw [a] at e o lo
    unfold m_numbers_of b_numbers_of
    generalize sD ws = z at *
    have ll : l.length ≤ lim := by rw [nD_length] at lo; exact lo
    simp -implicitDefEqProofs [e, ll, o]
end Ar
namespace Ar
open PySem PySem.Spec PyProof.Rows L2
/-! texts of our signs, split and bent -/
theorem take_ex (d : Dr) (m : Int) (h1 : 0 < m) (h2 : m < 1000000000000000000000000000000) : ∃ (r : Int) (d' : Dr), m_law_take [.l (drL d), .z (.int m)] = .ok (.z (.int r)) [.l (drL d'), .z (.int m)] ∧ 0 ≤ r ∧ r < m := ⟨_, _, take_ok d m h1 h2, take_lo d h1, take_hi d h1⟩
/-! a split text's words -/
theorem spl_mem (S : List Nat) : ∀ (k : Nat) (acc l p : List Nat), p ∈ TL.spl S k acc l → (∀ c ∈ p, c ∈ acc ∨ c ∈ l) ∧ p.length ≤ acc.length + l.length
  | k, acc, [], p, h => by
    rw [TL.spl_nil] at h
    rw [List.mem_singleton.mp h]
    exact ⟨fun c hc => .inl hc, by simp⟩
  | 0, acc, c :: r, p, h => by
    by_cases hp : TL.pre S (c :: r) = true
    · rw [TL.spl_hit hp] at h
      rcases List.mem_cons.mp h with rfl | h
      · exact ⟨fun c hc => .inl hc, by simp⟩
      · obtain ⟨a, b⟩ := spl_mem S _ [] r p h
        refine ⟨fun c hc => (a c hc).elim (fun z => nomatch z) fun z => .inr (List.mem_cons_of_mem _ z), ?_⟩
        rw [List.length_cons]
        simp at b
        omega
    · rw [TL.spl_miss (by simpa using hp)] at h
      obtain ⟨a, b⟩ := spl_mem S 0 (acc ++ [c]) r p h
      refine ⟨fun d hd => ?_, ?_⟩
      · rcases a d hd with z | z
        · rcases List.mem_append.mp z with z | z
          · exact .inl z
          · rw [List.mem_singleton.mp z]; exact .inr List.mem_cons_self
        · exact .inr (List.mem_cons_of_mem _ z)
      · rw [List.length_append] at b
        rw [List.length_cons]
        simp at b
        omega
  | k + 1, acc, c :: r, p, h => by
    have h : p ∈ TL.spl S k acc r := h
    obtain ⟨a, b⟩ := spl_mem S k acc r p h
    exact ⟨fun d hd => (a d hd).imp id fun z => List.mem_cons_of_mem _ z, by rw [List.length_cons]; omega⟩
theorem spl_ne (S : List Nat) : ∀ (k : Nat) (acc l : List Nat), TL.spl S k acc l ≠ [] ∧ (TL.spl S k acc l).length ≤ l.length + 1
  | k, acc, [] => by rw [TL.spl_nil]; exact ⟨by simp, by simp⟩
  | 0, acc, c :: r => by
    by_cases hp : TL.pre S (c :: r) = true
    · rw [TL.spl_hit hp]
      have := (spl_ne S (S.length - 1) [] r).2
      exact ⟨by simp, by rw [List.length_cons, List.length_cons]; omega⟩
    · rw [TL.spl_miss (by simpa using hp)]
      obtain ⟨a, b⟩ := spl_ne S 0 (acc ++ [c]) r
      exact ⟨a, by rw [List.length_cons]; omega⟩
  | k + 1, acc, c :: r => by
    obtain ⟨a, b⟩ := spl_ne S k acc r
    exact ⟨a, by show (TL.spl S k acc r).length ≤ _; rw [List.length_cons]; omega⟩
/-- a text of our signs -/
def tOk (t : Str) (n : Nat) : Prop := okG (TL.tl t) ∧ t.length ≤ n
theorem sp_tl : TL.tl (" " : Str) = [32] := by decide +kernel
theorem split_any {t : Str} (h : tOk t 640) : ∃ ws : List Str, oSplit (.str t) (.str " ") = some (.l (sT ws)) ∧ ws ≠ [] ∧ ws.length ≤ 641 ∧ ∀ w ∈ ws, wOk w := by
  have e : TL.tl (" " : Str) = [32] := sp_tl
  have s := TL.split_spl t " " (by rw [e]; simp) (TL.kind_ok (by decide +kernel))
  have n := spl_ne (TL.tl " ") 0 [] (TL.tl t)
  rw [← s, ← TL.len_tl, List.length_map] at n
  refine ⟨Txt.split t " ", ?_, fun z => n.1 (by rw [z]; rfl), by have := h.2; omega, fun w hw => ?_⟩
  · rw [oSplit_str, if_pos ⟨by decide, by have := h.2; unfold lim; omega⟩]
  · have : TL.tl w ∈ TL.spl (TL.tl " ") 0 [] (TL.tl t) := by rw [← s]; exact List.mem_map_of_mem hw
    obtain ⟨a, b⟩ := spl_mem _ _ _ _ _ this
    refine ⟨fun c hc => (a c hc).elim (fun z => nomatch z) (h.1 c), ?_⟩
    rw [TL.len_tl]
    rw [← TL.len_tl t, List.length_nil, Nat.zero_add] at b
    exact Nat.le_trans b h.2
/-! bends -/
def alph : List Nat := [32, 47, 48, 49, 50, 51, 52, 53, 54, 55, 56, 57, 44, 45, 43, 46, 126, 97, 99, 100, 101, 102, 105, 108, 109, 110, 111, 112, 114, 115, 116, 10, 65]
theorem alph_eq : (" /0123456789,-+.~acdefilmnoprst\nA" : Str) = tx alph := by decide +kernel
theorem alph_ok : okG alph := by
  show ∀ c ∈ alph, c ∈ figs ++ odds
  decide +kernel
theorem cut_to' {α : Type} (l : List α) {k : Nat} (h : k ≤ l.length) : cutD l none (some (k : Int)) = l.take k := by
  unfold cutD
  rw [HT.sIx_nat, Nat.min_eq_left h]
  rfl
theorem cutfrom {α : Type} (l : List α) (k : Nat) (h : k ≤ l.length + 1) : cutD l (some (k : Int)) none = l.drop k := by
  unfold cutD
  rw [HT.sIx_nat]
  show (l.drop (min k l.length)).take (l.length - _) = _
  by_cases c : k ≤ l.length
  · rw [Nat.min_eq_left c, List.take_of_length_le (by rw [List.length_drop]; exact Nat.le_refl _)]
  · have : k = l.length + 1 := by omega
    subst this
    rw [Nat.min_eq_right (by omega), List.drop_of_length_le (Nat.le_refl _), List.drop_of_length_le (by omega), List.take_nil]
theorem okG_app {a b : List Nat} (h1 : okG a) (h2 : okG b) : okG (a ++ b) := fun c hc => (List.mem_append.mp hc).elim (h1 c) (h2 c)
theorem okG_take {a : List Nat} (h : okG a) (k : Nat) : okG (a.take k) := fun c hc => h c (List.mem_of_mem_take hc)
theorem okG_drop {a : List Nat} (h : okG a) (k : Nat) : okG (a.drop k) := fun c hc => h c (List.mem_of_mem_drop hc)
theorem tOk_tx {l : List Nat} {n : Nat} (h : okG l) (hl : l.length ≤ n) : tOk (tx l) n := ⟨h, by rw [tx_length]; exact hl⟩
theorem bent_ok (d : Dr) {l : List Nat} (h : okG l) (hl : l.length ≤ 1000) : ∃ (l' : List Nat) (d' : Dr), m_law_bent_text [.l (drL d), .z (.str (tx l))] = .ok (.z (.str (tx l'))) [.l (drL d'), .z (.str (tx l))] ∧ okG l' ∧ l'.length ≤ l.length + 3 := by
  obtain ⟨a, d1, e1, a0, a1⟩ := take_ex d ((l.length : Int) + 1) (by omega) (by omega)
  obtain ⟨k, rfl⟩ : ∃ k : Nat, a = k := ⟨a.toNat, by omega⟩
  have hk : k ≤ l.length := by omega
  have ol : oLen (.str (tx l)) = some (.z (.int l.length)) := by rw [oLen_str, tx_length, if_pos (by unfold lim; omega)]
  have oa : oLen (.str (tx alph)) = some (.z (.int 33)) := by rw [oLen_str, tx_length, if_pos (by decide)]; rfl
  obtain ⟨b, d2, e2, b0, b1⟩ := take_ex d1 33 (by omega) (by omega)
  obtain ⟨j, rfl⟩ : ∃ j : Nat, b = j := ⟨b.toNat, by omega⟩
  have hj : j < alph.length := by show j < 33; omega
  have oi : oIx (.str (tx alph)) (.int j) = some (.z (.str (tx [alph[j]]))) := by
    rw [oIx_tx _ _ (by decide), atI_nat, List.getElem?_eq_getElem hj]
    rfl
  have hc : okG [alph[j]] := fun c hc => by rw [List.mem_singleton.mp hc]; exact alph_ok _ (List.getElem_mem hj)
  obtain ⟨w, d3, e3, w0, w1⟩ := take_ex d2 7 (by omega) (by omega)
  have sl1 : oSl (.str (tx l)) none (some (k : Int)) = some (.z (.str (tx (l.take k)))) := by rw [oSl_tx _ _ _ (by unfold lim; omega), cut_to' l hk]
  have sl2 : oSl (.str (tx l)) (some (k : Int)) none = some (.z (.str (tx (l.drop k)))) := by rw [oSl_tx _ _ _ (by unfold lim; omega), cutfrom l k (by omega)]
  have sl3 : oSl (.str (tx l)) (some ((k : Int) + 1)) none = some (.z (.str (tx (l.drop (k + 1))))) := by
    rw [oSl_tx _ _ _ (by unfold lim; omega), show ((k : Int) + 1) = ((k + 1 : Nat) : Int) from rfl, cutfrom l (k + 1) (by omega)]
  have lt : (l.take k).length = k := by rw [List.length_take, Nat.min_eq_left hk]
  have ld : (l.drop k).length = l.length - k := List.length_drop ..
  have ld1 : (l.drop (k + 1)).length = l.length - (k + 1) := List.length_drop ..
  have slash : (" / " : Str) = tx [32, 47, 32] := by decide +kernel
  generalize alph[j] = c at *
  have ad : ∀ a b : List Nat, a.length + b.length ≤ lim → oAdd (.str (tx a)) (.str (tx b)) = some (.z (.str (tx (a ++ b)))) := fun a b h => by
    rw [oAdd_str, tx_length, tx_length, if_pos h, tx_app]
  have ad1 := ad (l.take k) [c] (by rw [lt]; unfold lim; simp; omega)
  have ad2 := ad (l.take k ++ [c]) (l.drop k) (by rw [List.length_append, lt, ld]; unfold lim; simp; omega)
  have ad3 := ad (l.take k) (l.drop (k + 1)) (by rw [lt, ld1]; unfold lim; omega)
  have ad4 := ad (l.take k ++ [c]) (l.drop (k + 1)) (by rw [List.length_append, lt, ld1]; unfold lim; simp; omega)
  have ad5 := ad (l.take k) [32, 47, 32] (by rw [lt]; unfold lim; simp; omega)
  have ad6 := ad (l.take k ++ [32, 47, 32]) (l.drop k) (by rw [List.length_append, lt, ld]; unfold lim; simp; omega)
  have hT := okG_take h k
  have hD := okG_drop h k
  have hE := okG_drop h (k + 1)
  have sok : okG [32, 47, 32] := by
    show ∀ c ∈ [32, 47, 32], c ∈ figs ++ odds
    decide +kernel
  have mk : ∀ l' d', m_law_bent_text [.l (drL d), .z (.str (tx l))] = .ok (.z (.str (tx l'))) [.l (drL d'), .z (.str (tx l))] → okG l' → l'.length ≤ l.length + 3 → ∃ (l' : List Nat) (d' : Dr), m_law_bent_text [.l (drL d), .z (.str (tx l))] = .ok (.z (.str (tx l'))) [.l (drL d'), .z (.str (tx l))] ∧ okG l' ∧ l'.length ≤ l.length + 3 := fun l' d' a b c => ⟨l', d', a, b, c⟩
  unfold m_law_bent_text b_law_bent_text at mk ⊢
  rw [alph_eq, slash] at mk ⊢
  have tail5 : ∀ i : Int, 0 ≤ i → i < 5 → ∃ x : List Nat, oIx (.lst [.str " ", .str "\n", .str " 0", .str "0", .str " /"]) (.int i) = some (.z (.str (tx x))) ∧ okG x ∧ x.length ≤ 2 := by
    intro i h0 h1
    obtain rfl | rfl | rfl | rfl | rfl : i = 0 ∨ i = 1 ∨ i = 2 ∨ i = 3 ∨ i = 4 := by omega
    · exact ⟨[32], by rw [← (by decide +kernel : (" " : Str) = tx [32])]; rfl, (by decide +kernel : ∀ c ∈ [32], c ∈ figs ++ odds), by decide⟩
    · exact ⟨[10], by rw [← (by decide +kernel : ("\n" : Str) = tx [10])]; rfl, (by decide +kernel : ∀ c ∈ [10], c ∈ figs ++ odds), by decide⟩
    · exact ⟨[32, 48], by rw [← (by decide +kernel : (" 0" : Str) = tx [32, 48])]; rfl, (by decide +kernel : ∀ c ∈ [32, 48], c ∈ figs ++ odds), by decide⟩
    · exact ⟨[48], by rw [← (by decide +kernel : ("0" : Str) = tx [48])]; rfl, (by decide +kernel : ∀ c ∈ [48], c ∈ figs ++ odds), by decide⟩
    · exact ⟨[32, 47], by rw [← (by decide +kernel : (" /" : Str) = tx [32, 47])]; rfl, (by decide +kernel : ∀ c ∈ [32, 47], c ∈ figs ++ odds), by decide⟩
  generalize tx alph = al at *
  obtain rfl | rfl | rfl | rfl | rfl | rfl | rfl : w = 0 ∨ w = 1 ∨ w = 2 ∨ w = 3 ∨ w = 4 ∨ w = 5 ∨ w = 6 := by omega
  · exact mk (l.take k ++ [c] ++ l.drop k) d3 (by simp -implicitDefEqProofs [-oAdd_str, -tx_app, ol, oa, e1, e2, e3, oi, sl1, sl2, ad1, ad2]) (okG_app (okG_app hT hc) hD) (by rw [List.length_append, List.length_append, lt, ld]; simp; omega)
  · exact mk (l.take k ++ l.drop (k + 1)) d3 (by simp -implicitDefEqProofs [-oAdd_str, -tx_app, ol, oa, e1, e2, e3, oi, sl1, sl3, ad3]) (okG_app hT hE) (by rw [List.length_append, lt, ld1]; omega)
  · exact mk (l.take k ++ [c] ++ l.drop (k + 1)) d3 (by simp -implicitDefEqProofs [-oAdd_str, -tx_app, ol, oa, e1, e2, e3, oi, sl1, sl3, ad1, ad4]) (okG_app (okG_app hT hc) hE) (by rw [List.length_append, List.length_append, lt, ld1]; simp; omega)
  · exact mk (l.take k) d3 (by simp -implicitDefEqProofs [-oAdd_str, -tx_app, ol, oa, e1, e2, e3, oi, sl1]) hT (by rw [lt]; omega)
  · exact mk (l.drop k) d3 (by simp -implicitDefEqProofs [-oAdd_str, -tx_app, ol, oa, e1, e2, e3, oi, sl2]) hD (by rw [ld]; omega)
  · exact mk (l.take k ++ [32, 47, 32] ++ l.drop k) d3 (by simp -implicitDefEqProofs [-oAdd_str, -tx_app, ol, oa, e1, e2, e3, oi, sl1, sl2, ad5, ad6]) (okG_app (okG_app hT sok) hD) (by rw [List.length_append, List.length_append, lt, ld]; simp; omega)
  · obtain ⟨i, d4, e4, i0, i1⟩ := take_ex d3 5 (by omega) (by omega)
    obtain ⟨x, ex, hx, lx⟩ := tail5 i i0 i1
    have ad7 := ad l x (by unfold lim; omega)
    exact mk (l ++ x) d4 (by simp -implicitDefEqProofs [-oAdd_str, -tx_app, ol, oa, e1, e2, e3, e4, oi, ex, ad7]) (okG_app h hx) (by rw [List.length_append]; omega)
end Ar
namespace Ar
open PySem PySem.Spec PyProof.Rows L2
/-! what words read -/
theorem any_cong {α : Type} {f g : α → Bool} : ∀ {l : List α}, (∀ x ∈ l, f x = g x) → l.any f = l.any g
  | [], _ => rfl
  | x :: l, h => by rw [List.any_cons, List.any_cons, h x List.mem_cons_self, any_cong fun y hy => h y (List.mem_cons_of_mem _ hy)]
theorem oAny_map {α : Type} (l : List α) (p : α → Bool) : oAny (.lst (l.map fun x => D.bl (p x))) = some (.z (.bl (l.any p))) := by
  unfold oAny
  have : (l.map fun x => D.bl (p x)) = (l.map p).map D.bl := by rw [List.map_map]; rfl
  dsimp only
  rw [this, blsD_map]
  dsimp only
  rw [List.any_map]
  rfl
def onO (ws : List Str) : D := match nsO ws with
  | some l => .tup (nD l)
  | none => .non
theorem atom_on (ws : List Str) : (onO ws).atom = true := by
  unfold onO
  cases nsO ws with
  | none => rfl
  | some l => exact atoms_nD l
theorem nsO_any : ∀ ws : List Str, (ws.any fun w => (nO w).isNone) = (nsO ws).isNone
  | [] => rfl
  | w :: ws => by
    rw [List.any_cons, nsO_any ws, nsO]
    cases nO w with
    | none => rfl
    | some n => cases nsO ws <;> rfl
theorem isNonD_oI (x : Option Int) : isNonD (oI x) = x.isNone := by cases x <;> rfl
theorem isNonD_on (ws : List Str) : isNonD (onO ws) = (nsO ws).isNone := by unfold onO; cases nsO ws <;> rfl
theorem law_numbers_gen (ws : List Str) (h : ∀ w ∈ ws, wOk w) (hl : ws.length ≤ 1000) : m_law_numbers [.z (.lst (sD ws))] = .ok (.z (onO ws)) [.z (.lst (sD ws))] := by
  have e : ∀ z, compR [2] (Tg.n 2).put (M.ret true) (zT (callM m_law_number [none] (argEx (rdz 2) (M.ret [])))) (sD ws) [z, .gone, .gone, .gone] = .ok (osD ws) [z, .gone, .gone, .gone] := fun z => by
    refine compR_map D.str (fun w => oI (nO w)) rfl fun w hw => ?_
    have := law_number_w (h w hw)
    generalize oI (nO w) = d at *
    simp -implicitDefEqProofs [this]
  have e2 : ∀ z y, compR [3] (Tg.n 3).put (M.ret true) (zT (isN (see (seeN 3)))) (osD ws) [z, y, .gone, .gone] = .ok (ws.map fun w => .bl (nO w).isNone) [z, y, .gone, .gone] := fun z y => by
    refine compR_map (fun w => oI (nO w)) (fun w => .bl (nO w).isNone) rfl fun w hw => ?_
    have := isNonD_oI (nO w)
    generalize oI (nO w) = d at *
    simp -implicitDefEqProofs [this]
  have lo : (osD ws).length ≤ lim := by unfold osD lim; rw [List.length_map]; omega
  have lb : (ws.map fun w => D.bl (nO w).isNone).length ≤ lim := by unfold lim; rw [List.length_map]; omega
  have an := oAny_map ws fun w => (nO w).isNone
  rw [nsO_any] at an
  unfold onO
  cases q : nsO ws with
  | none =>
    rw [q] at an
    unfold m_law_numbers b_law_numbers
    generalize sD ws = z at *
    generalize osD ws = y at *
    generalize (ws.map fun w => D.bl (nO w).isNone) = bs at *
    simp -implicitDefEqProofs [e, e2, lo, lb, an]
  | some l =>
    rw [q] at an
    obtain ⟨a, b⟩ := nsO_some q
    rw [a] at e e2 lo
    have ll : l.length ≤ lim := by rw [nD_length] at lo; exact lo
    unfold m_law_numbers b_law_numbers
    generalize sD ws = z at *
    generalize (ws.map fun w => D.bl (nO w).isNone) = bs at *
    simp -implicitDefEqProofs [e, e2, ll, lb, an]
/-! the pieces -/
theorem pcF_all (P : Str → Prop) : ∀ (ws : List Str) (Q : List (List Str)) (p : List Str), (∀ q ∈ Q, ∀ w ∈ q, P w) → (∀ w ∈ p, P w) → (∀ w ∈ ws, P w) → ∀ q ∈ pcF Q p ws, ∀ w ∈ q, P w
  | [], Q, p, h1, h2, _, q, hq, w, hw => by
    rcases List.mem_append.mp hq with z | z
    · exact h1 q z w hw
    · rw [List.mem_singleton.mp z] at hw; exact h2 w hw
  | x :: ws, Q, p, h1, h2, h3, q, hq, w, hw => by
    rw [pcF] at hq
    by_cases c : x = "/"
    · rw [if_pos c] at hq
      refine pcF_all P ws (Q ++ [p]) [] (fun q' hq' => ?_) (fun w hw => absurd hw List.not_mem_nil) (fun w hw => h3 w (List.mem_cons_of_mem _ hw)) q hq w hw
      rcases List.mem_append.mp hq' with z | z
      · exact h1 q' z
      · rw [List.mem_singleton.mp z]; exact h2
    · rw [if_neg c] at hq
      refine pcF_all P ws Q (p ++ [x]) h1 (fun w hw => ?_) (fun w hw => h3 w (List.mem_cons_of_mem _ hw)) q hq w hw
      rcases List.mem_append.mp hw with z | z
      · exact h2 w z
      · rw [List.mem_singleton.mp z]; exact h3 x List.mem_cons_self
theorem pcF_len : ∀ (ws : List Str) (Q : List (List Str)) (p : List Str), (pcF Q p ws).length ≤ Q.length + 1 + ws.length ∧ pcF Q p ws ≠ [] ∧ ∀ n, (∀ q ∈ Q, q.length ≤ n) → p.length + ws.length ≤ n → ∀ q ∈ pcF Q p ws, q.length ≤ n
  | [], Q, p => ⟨by show (Q ++ [p]).length ≤ _; rw [List.length_append]; simp, by show Q ++ [p] ≠ []; simp, fun n h1 h2 q hq => by
    rcases List.mem_append.mp hq with z | z
    · exact h1 q z
    · rw [List.mem_singleton.mp z]; simpa using h2⟩
  | x :: ws, Q, p => by
    rw [pcF]
    by_cases c : x = "/"
    · rw [if_pos c]
      obtain ⟨a, b, e⟩ := pcF_len ws (Q ++ [p]) []
      refine ⟨by rw [List.length_append] at a; rw [List.length_cons]; simp at a; omega, b, fun n h1 h2 => e n (fun q hq => ?_) (by rw [List.length_cons] at h2; simp; omega)⟩
      rcases List.mem_append.mp hq with z | z
      · exact h1 q z
      · rw [List.mem_singleton.mp z]; omega
    · rw [if_neg c]
      obtain ⟨a, b, e⟩ := pcF_len ws Q (p ++ [x])
      exact ⟨by rw [List.length_cons]; omega, b, fun n h1 h2 => e n h1 (by rw [List.length_append]; rw [List.length_cons] at h2; simp; omega)⟩
theorem row_loop (x : T) (L : Nat) (hL : L ≤ 1000) : ∀ (ws : List Str) (Q : List (List Str)) (p : List Str) (u : T), (∀ w ∈ ws, PyData.strOk w = true) → Q.length + p.length + ws.length ≤ L → ∃ u', loopS (Tg.n 2).put l0_law_read_refit (sD ws) [x, .l (pT (Q ++ [p])), u, .gone, .gone, .gone] = .nx [x, .l (pT (pcF Q p ws)), u', .gone, .gone, .gone]
  | [], Q, p, u, _, _ => ⟨u, rfl⟩
  | w :: ws, Q, p, u, h, hl => by
    rw [List.length_cons] at hl
    have o := oEq_strs w "/" (h w List.mem_cons_self) (by decide +kernel)
    have e3 : sD (w :: ws) = .str w :: sD ws := rfl
    by_cases hw : w = "/"
    · obtain ⟨u', ih⟩ := row_loop x L hL ws (Q ++ [p]) [] (.z (.str w)) (fun y hy => h y (List.mem_cons_of_mem _ hy)) (by rw [List.length_append]; simp at hl ⊢; omega)
      refine ⟨u', ?_⟩
      rw [pcF, if_pos hw, ← ih, e3, loopS_cons]
      rw [decide_eq_true hw] at o
      have l1 : (Q ++ [p]).length < lim := by rw [List.length_append]; unfold lim; simp; omega
      have e4 : pT (Q ++ [p] ++ [[]]) = pT (Q ++ [p]) ++ [.l []] := by unfold pT; rw [List.map_append]; rfl
      rw [e4]
      generalize hz : pT (Q ++ [p]) = z at *
      have l2 : z.length < lim := by rw [← hz, pT_len]; exact l1
      unfold l0_law_read_refit
      simp -implicitDefEqProofs [o, l2]
    · obtain ⟨u', ih⟩ := row_loop x L hL ws Q (p ++ [w]) (.z (.str w)) (fun y hy => h y (List.mem_cons_of_mem _ hy)) (by rw [List.length_append]; simp at hl ⊢; omega)
      refine ⟨u', ?_⟩
      rw [pcF, if_neg hw, ← ih, e3, loopS_cons]
      rw [decide_eq_false hw] at o
      have e4 : pT (Q ++ [p ++ [w]]) = (pT (Q ++ [p])).set Q.length (.l (sT p ++ [.z (.str w)])) := by
        unfold pT; rw [List.map_append, List.map_append]
        rw [List.set_append_right _ _ (by rw [List.length_map]; omega)]
        simp [sT]
      have at_ : (pT (Q ++ [p]))[Q.length]? = some (.l (sT p)) := by unfold pT; rw [List.map_append, List.getElem?_append_right (by rw [List.length_map]; omega)]; simp
      have hnap := napD_at (i := 1) (ts := [x, .l (pT (Q ++ [p])), .z (.str w), .gone, .gone, .gone]) (j := -1) (y := .str w) (k := Q.length) rfl (by rw [pT_len, List.length_append]; exact ixN_last _) at_ (by rw [sT_length]; unfold lim; omega) rfl
      rw [← e4] at hnap
      unfold l0_law_read_refit
      simp -implicitDefEqProofs [o, hnap]
/-- the empty list, looked for among pieces -/
theorem eqd_emp {p : List Str} (so : ∀ w ∈ p, PyData.strOk w = true) : eqd (.lst (sD p)) (.lst []) = decide (p = []) ∧ okq (.lst (sD p)) = true := by
  have h1 : okq (.lst (sD p)) = true := okq_of (k := 1) (okq_sD so 0) (by omega)
  refine ⟨?_, h1⟩
  obtain ⟨e1, _⟩ := okq_py h1
  unfold eqd
  rw [D.py] at e1
  cases q : D.pys (sD p) with
  | none => rw [q] at e1; cases e1
  | some x =>
    rw [q] at e1
    rw [(Option.some.inj e1).symm]
    cases p with
    | nil =>
      have : D.pys (sD []) = some [] := rfl
      rw [this] at q
      cases q
      have : pyD (.lst []) = .list [] := rfl
      rw [this, PyData.eqv, PyData.eqvAll]
      rfl
    | cons w p =>
      cases x with
      | nil =>
        exfalso
        have : sD (w :: p) = .str w :: sD p := rfl
        rw [this, D.pys] at q
        split at q <;> cases q
      | cons x y =>
        have : pyD (.lst []) = .list [] := rfl
        rw [this, PyData.eqv, PyData.eqvAll]
        all_goals simp
theorem oEq_emp {p : List Str} (so : ∀ w ∈ p, PyData.strOk w = true) : oEq (.lst (sD p)) (.lst []) = some (.z (.bl (decide (p = [])))) := by
  obtain ⟨a, b⟩ := eqd_emp so
  unfold oEq
  rw [if_pos ⟨b, okq_of (k := 1) rfl (by omega)⟩, a]
theorem oIn_emps (P : List (List Str)) (h : ∀ p ∈ P, ∀ w ∈ p, PyData.strOk w = true) : oIn (.lst []) (.lst (pDD P)) = some (.z (.bl (P.any fun p => decide (p = [])))) := by
  have ok1 : okq (.lst []) = true := okq_of (k := 1) rfl (by omega)
  have ok2 : okq (.lst (pDD P)) = true := okq_of (k := 2) (by
    rw [okd, okds_iff]
    intro d hd
    obtain ⟨p, hp, rfl⟩ := List.mem_map.mp hd
    exact okq_sD (h p hp) 0) (by omega)
  have f2 : (pDD P).any (fun z => eqd z (.lst [])) = P.any fun p => decide (p = []) := by
    unfold pDD
    rw [List.any_map]
    exact any_cong fun p hp => (eqd_emp (h p hp)).1
  have fl : flatD (.lst []) = false := rfl
  unfold oIn inD
  dsimp only
  rw [if_neg (by rw [fl]; simp), if_pos ⟨ok1, ok2⟩, f2]
/-! a refit -/
def badR (P : List (List Str)) : Bool := P.any fun p => (nsO p).isNone
def outR (P : List (List Str)) : D := .tup [.str "refit", onO (P.headD []), .tup (P.tail.map onO)]
def rdR (ws : List Str) : Option D := if ws = [] then none else if ((pcF [] [] ws).tail.any fun p => decide (p = [])) = true then none else if badR (pcF [] [] ws) = true then none else some (outR (pcF [] [] ws))
def rdX (o : Option D) (t : List T) : R T := match o with
  | some d => .ok (.z d) t
  | none => .ex "BadText" t
theorem pcF_cons (ws : List Str) : ∃ p P, pcF [] [] ws = p :: P := by
  cases q : pcF [] [] ws with
  | nil => exact absurd q (pcF_len ws [] []).2.1
  | cons p P => exact ⟨p, P, rfl⟩
section
variable {ws : List Str}
theorem prog_refit (h : ∀ w ∈ ws, wOk w) (hl : ws.length ≤ 700) : m_read_refit [.z (.lst (sD ws))] = rdX (rdR ws) [.z (.lst (sD ws))] := by
  have po := pieces_of_ok ws (fun w hw => wOk_str (h w hw)) (by omega)
  have pa := pcF_all wOk ws [] [] (fun q hq => nomatch hq) (fun w hw => nomatch hw) h
  obtain ⟨pl1, pl2, pl3⟩ := pcF_len ws [] []
  have pl3 := pl3 700 (fun q hq => nomatch hq) (by simp; omega)
  obtain ⟨p, P, eP⟩ := pcF_cons ws
  unfold rdR
  rw [eP] at po pa pl1 pl3 ⊢
  rw [List.length_cons] at pl1
  simp at pl1
  have fz := fzs_pT (p :: P)
  have so : ∀ q ∈ P, ∀ w ∈ q, PyData.strOk w = true := fun q hq w hw => wOk_str (pa q (List.mem_cons_of_mem _ hq) w hw)
  have oi := oIn_emps P so
  have sl : oSl (.lst (pDD (p :: P))) (some 1) none = some (.l ((pDD P).map .z)) := by
    show some (T.l ((cutD (.lst (sD p) :: pDD P) (some 1) none).map .z)) = _
    rw [cut1 _ _ (by unfold pDD; rw [List.length_map]; omega)]
  have x0 : oIx (.lst (pDD (p :: P))) (.int 0) = some (.z (.lst (sD p))) := by
    rw [oIx_lst]
    show (atI (.lst (sD p) :: pDD P) 0).map T.z = _
    rw [at0 _ _ (by unfold pDD; rw [List.length_map]; omega)]
    rfl
  have ol : oLen (.lst (sD ws)) = some (.z (.int ws.length)) := by
    show some (T.z (.int (sD ws).length)) = _
    rw [sD_length]
  have g0 := numbers_gen p (pa p List.mem_cons_self) (by have := pl3 p List.mem_cons_self; omega)
  have lP : (pDD P).length < lim := by unfold pDD lim; rw [List.length_map]; omega
  have tl : (p :: P).tail = P := rfl
  rw [tl]
  have its : itemsOf (.lst (pDD P)) = some (pDD P) := rfl
  by_cases c0 : ws = []
  · rw [if_pos c0]
    have z0 : ws.length = 0 := by rw [c0]; rfl
    generalize sD ws = WD at *
    generalize pT (p :: P) = PT at *
    generalize pDD (p :: P) = PD at *
    unfold m_read_refit b_read_refit rdX
    simp -implicitDefEqProofs [po, fz, ol, z0]
  rw [if_neg c0]
  have z0 : ¬ ws.length = 0 := fun z => c0 (List.eq_nil_of_length_eq_zero z)
  have z0 : ¬ ((ws.length : Int) = 0) := by omega
  cases c1 : P.any fun p => decide (p = []) with
  | true =>
    rw [if_pos rfl]
    rw [c1] at oi
    generalize sD ws = WD at *
    generalize pT (p :: P) = PT at *
    generalize pDD (p :: P) = PD at *
    generalize pDD P = PE at *
    unfold m_read_refit b_read_refit rdX
    simp -implicitDefEqProofs [po, fz, ol, z0, c0, sl, oi]
  | false =>
    rw [if_neg (by simp)]
    rw [c1] at oi
    cases q0 : nsO p with
    | none =>
      have b1 : badR (p :: P) = true := by unfold badR; rw [List.any_cons, q0]; rfl
      rw [if_pos b1]
      unfold rNs at g0
      rw [q0] at g0
      generalize sD ws = WD at *
      generalize pT (p :: P) = PT at *
      generalize pDD (p :: P) = PD at *
      generalize pDD P = PE at *
      generalize sD p = PF at *
      unfold m_read_refit b_read_refit rdX
      simp -implicitDefEqProofs [po, fz, ol, z0, c0, sl, oi, x0, g0]
    | some l0 =>
      have b0 : badR (p :: P) = P.any fun p => (nsO p).isNone := by unfold badR; rw [List.any_cons, q0]; rfl
      rw [b0]
      unfold rNs at g0
      rw [q0] at g0
      have gs : ∀ q ∈ P, m_numbers_of [.z (.lst (sD q))] = rNs q [.z (.lst (sD q))] := fun q hq => numbers_gen q (pa q (List.mem_cons_of_mem _ hq)) (by have := pl3 q (List.mem_cons_of_mem _ hq); omega)
      cases c2 : P.any fun p => (nsO p).isNone with
      | true =>
        rw [if_pos rfl]
        obtain ⟨b, hb, hbn⟩ := List.any_eq_true.mp c2
        have e : ∀ z y u, compXR [2] (Tg.n 2).put (M.ret true) (zT (callM m_numbers_of [none] (argEx (rdz 2) (M.ret [])))) (pDD P) [z, y, u] = .ex "BadText" [z, y, .gone] := fun z y u => by
          refine compXR_ex (ts := [z, y, .gone]) (fun q => D.lst (sD q)) (fun q => (nsO q).isNone = true) rfl P (fun q hq => ⟨[z, y, .z (.lst (sD q))], rfl, fun hn => ?_, fun hn => ?_⟩) [z, y, u] rfl ⟨b, hb, hbn⟩
          · have g := gs q hq
            unfold rNs at g
            cases q3 : nsO q with
            | some l => rw [q3] at hn; cases hn
            | none =>
              rw [q3] at g
              refine ⟨[z, y, .z (.lst (sD q))], ?_, rfl⟩
              generalize sD q = QD at *
              simp -implicitDefEqProofs [g]
          · have g := gs q hq
            unfold rNs at g
            cases q3 : nsO q with
            | none => rw [q3] at hn; exact absurd rfl hn
            | some l =>
              rw [q3] at g
              refine ⟨.tup (nD l), [z, y, .z (.lst (sD q))], ?_, rfl⟩
              generalize sD q = QD at *
              simp -implicitDefEqProofs [g]
        generalize sD ws = WD at *
        generalize pT (p :: P) = PT at *
        generalize pDD (p :: P) = PD at *
        generalize pDD P = PE at *
        generalize sD p = PF at *
        unfold m_read_refit b_read_refit rdX
        simp -implicitDefEqProofs [po, fz, ol, z0, c0, sl, oi, x0, g0, its, lP, e]
      | false =>
        rw [if_neg (by simp)]
        have e : ∀ z y u, compXR [2] (Tg.n 2).put (M.ret true) (zT (callM m_numbers_of [none] (argEx (rdz 2) (M.ret [])))) (pDD P) [z, y, u] = .ok (P.map onO) [z, y, .gone] := fun z y u => by
          refine compXR_ok _ _ _ _ (compR_map (fun q => D.lst (sD q)) onO rfl fun q hq => ?_)
          have g := gs q hq
          have nb : (nsO q).isNone = false := by
            have := List.any_eq_false.mp c2 q hq
            rw [Bool.not_eq_true] at this
            exact this
          unfold rNs at g
          unfold onO
          cases q3 : nsO q with
          | none => rw [q3] at nb; cases nb
          | some l =>
            rw [q3] at g
            generalize sD q = QD at *
            simp -implicitDefEqProofs [g]
        have lQ : (P.map onO).length ≤ lim := by rw [List.length_map]; unfold lim; omega
        have eo : outR (p :: P) = .tup [.str "refit", .tup (nD l0), .tup (P.map onO)] := by
          unfold outR
          show D.tup [.str "refit", onO p, .tup (P.map onO)] = _
          unfold onO
          rw [q0]
        rw [eo]
        generalize sD ws = WD at *
        generalize pT (p :: P) = PT at *
        generalize pDD (p :: P) = PD at *
        generalize pDD P = PE at *
        generalize sD p = PF at *
        generalize P.map onO = PO at *
        unfold m_read_refit b_read_refit rdX
        simp -implicitDefEqProofs [po, fz, ol, z0, c0, sl, oi, x0, g0, its, lP, e, lQ]
theorem law_refit (h : ∀ w ∈ ws, wOk w) (hl : ws.length ≤ 700) : m_law_read_refit [.z (.lst (sD ws))] = .ok (.z ((rdR ws).getD .non)) [.z (.lst (sD ws))] := by
  have hs : ∀ w ∈ ws, PyData.strOk w = true := fun w hw => wOk_str (h w hw)
  obtain ⟨u2, po⟩ := row_loop (.z (.lst (sD ws))) 1000 (by omega) ws [] [] .gone hs (by simp; omega)
  have e0 : T.l [T.l []] = .l (pT ([] ++ [[]])) := rfl
  have pa := pcF_all wOk ws [] [] (fun q hq => nomatch hq) (fun w hw => nomatch hw) h
  obtain ⟨pl1, pl2, pl3⟩ := pcF_len ws [] []
  have pl3 := pl3 700 (fun q hq => nomatch hq) (by simp; omega)
  obtain ⟨p, P, eP⟩ := pcF_cons ws
  unfold rdR
  rw [eP] at po pa pl1 pl3 ⊢
  rw [List.length_cons] at pl1
  simp at pl1
  have fz := fzs_pT (p :: P)
  have so : ∀ q ∈ P, ∀ w ∈ q, PyData.strOk w = true := fun q hq w hw => wOk_str (pa q (List.mem_cons_of_mem _ hq) w hw)
  have sl : oSl (.lst (pDD (p :: P))) (some 1) none = some (.l ((pDD P).map .z)) := by
    show some (T.l ((cutD (.lst (sD p) :: pDD P) (some 1) none).map .z)) = _
    rw [cut1 _ _ (by unfold pDD; rw [List.length_map]; omega)]
  have gs : ∀ q ∈ p :: P, m_law_numbers [.z (.lst (sD q))] = .ok (.z (onO q)) [.z (.lst (sD q))] := fun q hq => law_numbers_gen q (pa q hq) (by have := pl3 q hq; omega)
  have c1 : ∀ z y x u4 u5, compR [4] (Tg.n 4).put (M.ret true) (zT (callM m_law_numbers [none] (argEx (rdz 4) (M.ret [])))) (pDD (p :: P)) [z, y, x, .gone, u4, u5] = .ok ((p :: P).map onO) [z, y, x, .gone, .gone, u5] := fun z y x u4 u5 => by
    refine compR_map (fun q => D.lst (sD q)) onO rfl fun q hq => ?_
    have g := gs q hq
    generalize onO q = oq at *
    generalize sD q = QD at *
    simp -implicitDefEqProofs [g]
  have c2 : ∀ z y x w u4 u5, compR [4] (Tg.n 4).put (M.ret true) (zT (binZ oEq (zT (rdz 4)) (zT (lstM (M.ret []))))) (pDD P) [z, y, x, w, u4, u5] = .ok (P.map fun q => .bl (decide (q = []))) [z, y, x, w, .gone, u5] := fun z y x w u4 u5 => by
    refine compR_map (fun q => D.lst (sD q)) (fun q => .bl (decide (q = []))) rfl fun q hq => ?_
    have g := oEq_emp (so q hq)
    generalize decide (q = []) = bq at *
    generalize sD q = QD at *
    simp -implicitDefEqProofs [g]
  have c3 : ∀ z y x w u4 u5, compR [5] (Tg.n 5).put (M.ret true) (zT (isN (see (seeN 5)))) ((p :: P).map onO) [z, y, x, w, u4, u5] = .ok ((p :: P).map fun q => .bl (nsO q).isNone) [z, y, x, w, u4, .gone] := fun z y x w u4 u5 => by
    refine compR_map onO (fun q => .bl (nsO q).isNone) rfl fun q hq => ?_
    have g := isNonD_on q
    generalize onO q = oq at *
    simp -implicitDefEqProofs [g]
  have a2 := oAny_map P fun q => decide (q = [])
  have a3 := oAny_map (p :: P) fun q => (nsO q).isNone
  have l1 : ((p :: P).map onO).length ≤ lim := by rw [List.length_map, List.length_cons]; unfold lim; omega
  have l2 : (P.map fun q => D.bl (decide (q = []))).length ≤ lim := by rw [List.length_map]; unfold lim; omega
  have l3 : ((p :: P).map fun q => D.bl (nsO q).isNone).length ≤ lim := by rw [List.length_map, List.length_cons]; unfold lim; omega
  have ew := oEq_emp hs
  have fr : T.fresh (.l (((p :: P).map onO).map .z)) = true := by
    rw [T.fresh]
    have : ∀ L : List (List Str), T.freshs ((L.map onO).map .z) = true := fun L => by
      induction L with
      | nil => rfl
      | cons q L ih =>
        rw [List.map_cons, List.map_cons, T.freshs, ih, fresh_z, atom_on]
        rfl
    exact this (p :: P)
  have fo : T.fzs (((p :: P).map onO).map .z) = some ((p :: P).map onO) := fzs_z _
  have x0 : oIx (.lst ((p :: P).map onO)) (.int 0) = some (.z (onO p)) := by
    rw [oIx_lst]
    show (atI (onO p :: P.map onO) 0).map T.z = _
    rw [at0 _ _ (by rw [List.length_map]; omega)]
    rfl
  have s1 : oSl (.lst ((p :: P).map onO)) (some 1) none = some (.l ((P.map onO).map .z)) := by
    show some (T.l ((cutD (onO p :: P.map onO) (some 1) none).map .z)) = _
    rw [cut1 _ _ (by rw [List.length_map]; omega)]
  have tl : (p :: P).tail = P := rfl
  have eo : outR (p :: P) = .tup [.str "refit", onO p, .tup (P.map onO)] := rfl
  have i1 : itemsOf (.lst (pDD P)) = some (pDD P) := rfl
  have i2 : itemsOf (.lst (pDD (p :: P))) = some (pDD (p :: P)) := rfl
  have i3 : itemsOf (.lst ((p :: P).map onO)) = some ((p :: P).map onO) := rfl
  rw [tl, eo]
  unfold badR
  generalize (p :: P).any (fun q => (nsO q).isNone) = bb at *
  generalize P.any (fun q => decide (q = [])) = be at *
  have i4 : itemsOf (.lst (sD ws)) = some (sD ws) := rfl
  generalize hw0 : decide (ws = []) = bw at *
  have ifw : ∀ (a b : Option D), (if ws = [] then a else b) = if bw = true then a else b := fun a b => by
    by_cases c : ws = []
    · rw [if_pos c, ← hw0, decide_eq_true c, if_pos rfl]
    · rw [if_neg c, ← hw0, decide_eq_false c, if_neg (by simp)]
  rw [ifw]
  generalize sD ws = WD at *
  rw [e0.symm] at po
  generalize pT (p :: P) = PT at *
  generalize pDD (p :: P) = PD at *
  generalize pDD P = PE at *
  generalize (p :: P).map onO = PO at *
  generalize P.map onO = PQ at *
  generalize (P.map fun q => D.bl (decide (q = []))) = B1 at *
  generalize ((p :: P).map fun q => D.bl (nsO q).isNone) = B2 at *
  generalize onO p = op at *
  unfold m_law_read_refit b_law_read_refit
  cases bw <;> cases be <;> cases bb <;> simp -implicitDefEqProofs [po, fz, sl, c1, c2, c3, a2, a3, l1, l2, l3, ew, fr, fo, x0, s1, i1, i2, i3, i4]
end
end Ar
namespace Ar
open PySem PySem.Spec PyProof.Rows L2
/-! facts read, whatever the words; the texts drawn -/
def cntF (w : Str) : Option Int := if w = "fell" then some 1 else if w = "lend" then some 2 else if w = "pay" then some 2 else if w = "clear" then some 1 else none
theorem cnt_tab (w : Str) : lookS tab_PLAIN w = (cntF w).map D.int := by
  by_cases h1 : w = "fell"
  · subst h1; rfl
  by_cases h2 : w = "lend"
  · subst h2; rfl
  by_cases h3 : w = "pay"
  · subst h3; rfl
  by_cases h4 : w = "clear"
  · subst h4; rfl
  unfold cntF lookS tab_PLAIN
  rw [if_neg h1, if_neg h2, if_neg h3, if_neg h4]
  simp [Ne.symm h1, Ne.symm h2, Ne.symm h3, Ne.symm h4]
def four : List (Key × D) := [(.inr "fell", .int 1), (.inr "lend", .int 2), (.inr "pay", .int 2), (.inr "clear", .int 1)]
theorem cnt_get (w : Str) : oGet (.dk four) (.str w) (.int 0) = some (.z (.int ((cntF w).getD 0))) := by
  by_cases h1 : w = "fell"
  · subst h1; rfl
  by_cases h2 : w = "lend"
  · subst h2; rfl
  by_cases h3 : w = "pay"
  · subst h3; rfl
  by_cases h4 : w = "clear"
  · subst h4; rfl
  rw [oGet_dk]
  unfold cntF
  rw [if_neg h1, if_neg h2, if_neg h3, if_neg h4]
  show some (T.z ((getK four (.inr w)).getD (.int 0))) = _
  have : getK four (.inr w) = none := by
    unfold four getK
    simp [List.lookup, Ne.symm h1, Ne.symm h2, Ne.symm h3, Ne.symm h4, h1, h2, h3, h4]
  rw [this]
  rfl
theorem cnt_in (w : Str) : oNotIn (.str w) (.dk four) = some (.z (.bl (!(cntF w).isSome))) := by
  by_cases h1 : w = "fell"
  · subst h1; rfl
  by_cases h2 : w = "lend"
  · subst h2; rfl
  by_cases h3 : w = "pay"
  · subst h3; rfl
  by_cases h4 : w = "clear"
  · subst h4; rfl
  unfold cntF
  rw [if_neg h1, if_neg h2, if_neg h3, if_neg h4]
  unfold oNotIn inD four hasK
  simp [D.key, Ne.symm h1, Ne.symm h2, Ne.symm h3, Ne.symm h4, h1, h2, h3, h4]

def rd (w : Str) (ws : List Str) : Option D :=
  if w = "refit" then rdR ws else if w = "storm" ∨ w = "find" then (if ws = [] then none else match nsO ws with
    | some l => some (.tup [.str w, .tup (nD l)])
    | none => none) else match cntF w with
    | none => none
    | some k => if (ws.length : Int) = k then (match nsO ws with
      | some l => some (.tup (.str w :: nD l))
      | none => none) else none
section
variable {w : Str} {ws : List Str}
theorem sf_dec : (decide ("storm" = w) || decide ("find" = w)) = decide (w = "storm" ∨ w = "find") := by
  by_cases a : w = "storm"
  · subst a; rfl
  · by_cases b : w = "find"
    · subst b; rfl
    · rw [decide_eq_false (fun h => a h.symm), decide_eq_false (fun h => b h.symm), decide_eq_false (fun h => h.elim a b)]; rfl
theorem prog_words (hw : wOk w) (h : ∀ x ∈ ws, wOk x) (hl : ws.length ≤ 690) : m_read_words [.z (.lst (sD (w :: ws)))] = rdX (rd w ws) [.z (.lst (sD (w :: ws)))] := by
  have e0 : sD (w :: ws) = .str w :: sD ws := rfl
  have c1 := cut1 (.str w) (sD ws) (by rw [sD_length]; omega)
  have sl : oSl (.lst (.str w :: sD ws)) (some 1) none = some (.l ((sD ws).map .z)) := by
    show some (T.l ((cutD (.str w :: sD ws) (some 1) none).map .z)) = _
    rw [c1]
  have x0 : oIx (.lst (.str w :: sD ws)) (.int 0) = some (.z (.str w)) := by
    rw [oIx_lst, at0 _ _ (by rw [sD_length]; omega)]
    rfl
  have ol : oLen (.lst (.str w :: sD ws)) = some (.z (.int ((ws.length : Int) + 1))) := by
    show some (T.z (.int ((.str w :: sD ws).length : Nat))) = _
    rw [List.length_cons, sD_length]
    rfl
  have q1 := oEq_strs w "refit" (wOk_str hw) (by decide +kernel)
  have q2 := oIn_2 w "storm" "find"
  rw [sf_dec] at q2
  have r1 := prog_refit h (by omega)
  have r2 := numbers_gen ws h (by omega)
  have r3 := cnt_tab w
  have lw : (sD ws).length ≤ lim := by rw [sD_length]; unfold lim; omega
  unfold rd
  rw [e0]
  by_cases a1 : w = "refit"
  · rw [if_pos a1]
    rw [decide_eq_true a1] at q1
    unfold rdX at r1 ⊢
    cases q : rdR ws with
    | none =>
      rw [q] at r1
      generalize sD ws = WD at *
      unfold m_read_words b_read_words
      simp -implicitDefEqProofs [sl, x0, q1, r1]
    | some d =>
      rw [q] at r1
      generalize sD ws = WD at *
      unfold m_read_words b_read_words
      simp -implicitDefEqProofs [sl, x0, q1, r1]
  rw [if_neg a1]
  rw [decide_eq_false a1] at q1
  by_cases a2 : w = "storm" ∨ w = "find"
  · rw [if_pos a2]
    rw [decide_eq_true a2] at q2
    by_cases a3 : ws = []
    · rw [if_pos a3]
      have n0 : ws.length = 0 := by rw [a3]; rfl
      rw [n0] at ol
      generalize sD ws = WD at *
      unfold m_read_words b_read_words rdX
      simp -implicitDefEqProofs [sl, x0, q1, q2, ol]
    · rw [if_neg a3]
      have n0 : 0 < ws.length := List.length_pos_iff.mpr a3
      have n1 : ¬ ((ws.length : Int) + 1 < 2) := by omega
      unfold rNs at r2
      unfold rdX
      cases q : nsO ws with
      | none =>
        rw [q] at r2
        generalize sD ws = WD at *
        unfold m_read_words b_read_words
        simp -implicitDefEqProofs [sl, x0, q1, q2, ol, n1, r2]
      | some l =>
        rw [q] at r2
        generalize sD ws = WD at *
        unfold m_read_words b_read_words
        simp -implicitDefEqProofs [sl, x0, q1, q2, ol, n1, r2]
  rw [if_neg a2]
  rw [decide_eq_false a2] at q2
  unfold rdX
  cases q3 : cntF w with
  | none =>
    rw [q3] at r3
    generalize sD ws = WD at *
    unfold m_read_words b_read_words
    simp -implicitDefEqProofs [sl, x0, q1, q2, ol, r3]
  | some k =>
    rw [q3] at r3
    dsimp only
    by_cases a4 : (ws.length : Int) = k
    · rw [if_pos a4]
      have n1 : ((ws.length : Int) + 1 = k + 1) = True := by rw [a4]; simp
      rw [a4] at ol
      unfold rNs at r2
      cases q : nsO ws with
      | none =>
        rw [q] at r2
        generalize sD ws = WD at *
        unfold m_read_words b_read_words
        simp -implicitDefEqProofs [sl, x0, q1, q2, ol, r3, r2]
      | some l =>
        rw [q] at r2
        have ll : 1 + l.length ≤ lim := by have := (nsO_some q).2; unfold lim; omega
        generalize sD ws = WD at *
        unfold m_read_words b_read_words
        simp -implicitDefEqProofs [sl, x0, q1, q2, ol, r3, r2, ll]
    · rw [if_neg a4]
      have n1 : ¬ ((ws.length : Int) + 1 = k + 1) := by omega
      generalize sD ws = WD at *
      generalize (ws.length : Int) = n at *
      unfold m_read_words b_read_words
      simp -implicitDefEqProofs [sl, x0, q1, q2, ol, r3, n1, a4]
theorem eqd_tupN (a b : List Int) : eqd (.tup (nD a)) (.tup (nD b)) = decide (a = b) := by
  have e : ∀ l, pyD (.tup (nD l)) = .tuple (l.map PyData.int) := fun l => by
    unfold pyD
    rw [D.py, pys_nD]
  unfold eqd
  rw [e, e, PyData.eqv, eqvAll_int]
theorem oEq_tup_nil (l : List Int) : oEq (.tup (nD l)) (.tup []) = some (.z (.bl (decide (l = [])))) := by
  have q : ∀ a : List Int, okq (.tup (nD a)) = true := fun a => okq_of (k := 1) (by simp) (by omega)
  show oEq (.tup (nD l)) (.tup (nD [])) = _
  unfold oEq
  rw [if_pos ⟨q l, q []⟩, eqd_tupN]
theorem fz_four : T.fz (.dk [(.inr "fell", .z (.int 1)), (.inr "lend", .z (.int 2)), (.inr "pay", .z (.int 2)), (.inr "clear", .z (.int 1))]) = some (.dk [(.inr "fell", .int 1), (.inr "lend", .int 2), (.inr "pay", .int 2), (.inr "clear", .int 1)]) := by
  rw [T.fz]
  simp only [T.fzk, T.fz]
theorem law_read (hw : wOk w) (h : ∀ x ∈ ws, wOk x) (hl : ws.length ≤ 690) : m_law_read [.z (.lst (sD (w :: ws)))] = .ok (.z ((rd w ws).getD .non)) [.z (.lst (sD (w :: ws)))] := by
  have e0 : sD (w :: ws) = .str w :: sD ws := rfl
  have c1 := cut1 (.str w) (sD ws) (by rw [sD_length]; omega)
  have sl : oSl (.lst (.str w :: sD ws)) (some 1) none = some (.l ((sD ws).map .z)) := by
    show some (T.l ((cutD (.str w :: sD ws) (some 1) none).map .z)) = _
    rw [c1]
  have x0 : oIx (.lst (.str w :: sD ws)) (.int 0) = some (.z (.str w)) := by
    rw [oIx_lst, at0 _ _ (by rw [sD_length]; omega)]
    rfl
  have q1 := oEq_strs w "refit" (wOk_str hw) (by decide +kernel)
  have q2 := oIn_2 w "storm" "find"
  rw [sf_dec] at q2
  have r1 := law_refit h (by omega)
  have r2 := law_numbers_gen ws h (by omega)
  have g1 := cnt_get w
  have g2 := cnt_in w
  unfold four at g1 g2
  unfold onO at r2
  unfold rd
  rw [e0]
  by_cases a1 : w = "refit"
  · rw [if_pos a1]
    rw [decide_eq_true a1] at q1
    generalize (rdR ws).getD .non = rr at *
    generalize sD ws = WD at *
    unfold m_law_read b_law_read
    simp -implicitDefEqProofs [sl, x0, q1, r1]
  rw [if_neg a1]
  rw [decide_eq_false a1] at q1
  cases q : nsO ws with
  | none =>
    have e9 : (if w = "storm" ∨ w = "find" then (if ws = [] then (none : Option D) else none) else match cntF w with
      | none => none
      | some k => if (ws.length : Int) = k then none else none) = none := by
      split
      · split <;> rfl
      · split
        · rfl
        · split <;> rfl
    dsimp only
    rw [e9]
    rw [q] at r2
    generalize sD ws = WD at *
    unfold m_law_read b_law_read
    simp -implicitDefEqProofs [sl, x0, q1, r2, fz_four]
  | some l =>
    obtain ⟨_, ll⟩ := nsO_some q
    rw [q] at r2
    dsimp only at r2 ⊢
    have l9 : 1 + l.length ≤ lim := by unfold lim; omega
    by_cases a2 : w = "storm" ∨ w = "find"
    · rw [if_pos a2]
      rw [decide_eq_true a2] at q2
      have en := oEq_tup_nil l
      have a3 : (ws = []) ↔ (l = []) := by
        rw [← List.length_eq_zero_iff, ← List.length_eq_zero_iff, ll]
      by_cases a4 : l = []
      · rw [if_pos (a3.mpr a4)]
        rw [decide_eq_true a4] at en
        generalize sD ws = WD at *
        generalize nD l = LD at *
        unfold m_law_read b_law_read
        simp -implicitDefEqProofs [-oGet_dk, sl, x0, q1, q2, fz_four, r2, en]
      · rw [if_neg (fun z => a4 (a3.mp z))]
        rw [decide_eq_false a4] at en
        generalize sD ws = WD at *
        generalize nD l = LD at *
        unfold m_law_read b_law_read
        simp -implicitDefEqProofs [-oGet_dk, sl, x0, q1, q2, fz_four, r2, en]
    · rw [if_neg a2]
      rw [decide_eq_false a2] at q2
      have ol : oLen (.tup (nD l)) = some (.z (.int l.length)) := by
        show some (T.z (.int (nD l).length)) = _
        rw [nD_length]
      rw [ll]
      cases q3 : cntF w with
      | none =>
        rw [q3] at g1 g2
        by_cases a4 : l.length = 0
        · rw [a4] at ol
          generalize sD ws = WD at *
          generalize nD l = LD at *
          unfold m_law_read b_law_read
          simp -implicitDefEqProofs [-oGet_dk, sl, x0, q1, q2, fz_four, r2, g1, g2, ol]
        · have a5 : ¬ ((0 : Int) = l.length) := by omega
          generalize sD ws = WD at *
          generalize nD l = LD at *
          generalize (l.length : Int) = n at *
          unfold m_law_read b_law_read
          simp -implicitDefEqProofs [-oGet_dk, sl, x0, q1, q2, fz_four, r2, g1, g2, ol, a5]
      | some k =>
        rw [q3] at g1 g2
        dsimp only
        by_cases a4 : (l.length : Int) = k
        · rw [if_pos a4]
          rw [a4] at ol
          unfold m_law_read b_law_read
          generalize sD ws = WD at *
          simp -implicitDefEqProofs [-oGet_dk, sl, x0, q1, q2, fz_four, r2, g1, g2, ol, l9]
        · rw [if_neg a4]
          have a5 : ¬ (k = (l.length : Int)) := fun z => a4 z.symm
          generalize sD ws = WD at *
          generalize nD l = LD at *
          generalize (l.length : Int) = n at *
          unfold m_law_read b_law_read
          simp -implicitDefEqProofs [-oGet_dk, sl, x0, q1, q2, fz_four, r2, g1, g2, ol, a5]
end
/-! the answer, told and due -/
def rsF (r : RS) (i : Nat) (cat : Str → Option Bool) (s : Str → S) : RS := match r with
  | .ex e ts' => (match cat e with
    | some true => if i < ts'.length then fixT i (s e (ts'.set i .gone)) else .bad
    | _ => .bad)
  | r => r
@[simp] theorem tryF_ap (i cat m s ts) : tryF i cat m s ts = rsF (m ts) i cat s := by
  unfold tryF rsF
  cases m ts <;> rfl
@[simp] theorem rsF_nx (ts i cat s) : rsF (.nx ts) i cat s = .nx ts := rfl
@[simp] theorem rsF_rt (t ts i cat s) : rsF (.rt t ts) i cat s = .rt t ts := rfl
theorem rsF_ex {e ts i cat s} (h : cat e = some true) (hi : i < ts.length) : rsF (.ex e ts) i cat s = fixT i (s e (ts.set i .gone)) := by
  unfold rsF
  dsimp only
  rw [h]
  dsimp only
  rw [if_pos hi]
theorem told_ok {t w : Str} {ws : List Str} (es : oSplit (.str t) (.str " ") = some (.l (sT (w :: ws)))) (hw : wOk w) (h : ∀ x ∈ ws, wOk x) (hl : ws.length ≤ 690) : m_law_told [.z (.str t)] = .ok (.z ((rd w ws).getD .non)) [.z (.str t)] := by
  have pw := prog_words hw h hl
  have fz := fzs_sT (w :: ws)
  have c1 : cat_BadText "BadText" = some true := rfl
  have b1 : is_BadFact "BadText" = some false := rfl
  have b2 : is_BadNumber "BadText" = some false := rfl
  have b3 : is_ArgosyError "BadText" = some true := rfl
  have rf : m_read_fact [.z (.str t)] = rdX (rd w ws) [.z (.str t)] := by
    unfold rdX at pw ⊢
    cases q : rd w ws with
    | none =>
      rw [q] at pw
      generalize sT (w :: ws) = WT at *
      generalize sD (w :: ws) = WD at *
      unfold m_read_fact b_read_fact
      simp -implicitDefEqProofs [-oSplit_str, es, fz, pw]
    | some d =>
      rw [q] at pw
      generalize sT (w :: ws) = WT at *
      generalize sD (w :: ws) = WD at *
      unfold m_read_fact b_read_fact
      simp -implicitDefEqProofs [-oSplit_str, es, fz, pw]
  unfold rdX at rf
  cases q : rd w ws with
  | none =>
    rw [q] at rf
    unfold m_law_told b_law_told
    simp -implicitDefEqProofs [rf, rsF_ex, c1, b1, b2, b3, oOr, oNot]
  | some d =>
    rw [q] at rf
    unfold m_law_told b_law_told
    simp -implicitDefEqProofs [rf]
theorem okm_on (ws : List Str) (hl : ws.length ≤ 1000000) : okm 3 (onO ws) = true := by
  unfold onO
  cases q : nsO ws with
  | none => rfl
  | some l =>
    have := (nsO_some q).2
    show okm 3 (.tup (nD l)) = true
    rw [okm_tup, okm_nD, nD_length, decide_eq_true (by omega)]; rfl
theorem okm_rd {w : Str} {ws : List Str} (hw : PyData.strOk w = true) (hl : ws.length ≤ 690) : okm 5 ((rd w ws).getD .non) = true := by
  have numT : ∀ l, nsO ws = some l → l.length ≤ 690 := fun l q => by have := (nsO_some q).2; omega
  unfold rd
  split
  · unfold rdR
    split
    · rfl
    · split
      · rfl
      · split
        · rfl
        · obtain ⟨p, P, eP⟩ := pcF_cons ws
          obtain ⟨pl1, pl2, pl3⟩ := pcF_len ws [] []
          have pl3 := pl3 700 (fun q hq => nomatch hq) (by simp; omega)
          rw [eP] at pl1 pl3 ⊢
          rw [List.length_cons] at pl1
          simp at pl1
          show okm 5 (.tup [.str "refit", onO p, .tup (P.map onO)]) = true
          have h1 : okm 4 (onO p) = true := by
            have := okm_on p (by have := pl3 p List.mem_cons_self; omega)
            unfold onO at this ⊢
            cases q : nsO p with
            | none => rfl
            | some l =>
              have := (nsO_some q).2
              have := pl3 p List.mem_cons_self
              show okm 4 (.tup (nD l)) = true
              rw [okm_tup, okm_nD, nD_length, decide_eq_true (by omega)]; rfl
          have h2 : (P.map onO).all (okm 3) = true := by
            rw [List.all_eq_true]
            intro d hd
            obtain ⟨q, hq, rfl⟩ := List.mem_map.mp hd
            exact okm_on q (by have := pl3 q (List.mem_cons_of_mem _ hq); omega)
          rw [okm_tup, List.all_cons, okm_str, List.all_cons, h1, List.all_cons, okm_tup, h2, List.length_map, decide_eq_true (p := P.length ≤ 1000000) (by omega), (by decide +kernel : PyData.strOk "refit" = true)]
          rfl
  · split
    · split
      · rfl
      · cases q : nsO ws with
        | none => rfl
        | some l =>
          have := numT l q
          show okm 5 (.tup [.str w, .tup (nD l)]) = true
          rw [okm_tup, List.all_cons, okm_str, hw, List.all_cons, okm_tup, okm_nD, nD_length, decide_eq_true (p := l.length ≤ 1000000) (by omega)]; rfl
    · split
      · rfl
      · split
        · cases q : nsO ws with
          | none => rfl
          | some l =>
            have := numT l q
            show okm 5 (.tup (.str w :: nD l)) = true
            rw [okm_tup, List.all_cons, okm_str, hw, okm_nD, decide_eq_true (by rw [List.length_cons, nD_length]; omega)]; rfl
        · rfl
/-! the facts drawn, as texts -/
def okK (l : List Int) : Prop := ∀ x ∈ l, 0 ≤ x ∧ x < 1000
theorem okK_1 {n : Int} (h0 : 0 ≤ n) (h : n < 1000) : okK [n] := fun x hx => by rw [List.mem_singleton.mp hx]; exact ⟨h0, h⟩
theorem okK_2 {n m : Int} (h0 : 0 ≤ n) (h : n < 1000) (h1 : 0 ≤ m) (h2 : m < 1000) : okK [n, m] := fun x hx => by
  rcases List.mem_cons.mp hx with rfl | hx
  · exact ⟨h0, h⟩
  · rw [List.mem_singleton.mp hx]; exact ⟨h1, h2⟩
theorem okK.n {l : List Int} (h : okK l) : okN l := fun x hx => ⟨(h x hx).1, by have := (h x hx).2; unfold big; omega⟩
inductive SF : Str → List D → List Str → Prop
  | plain {w : Str} {l : List Int} : (w = "fell" ∨ w = "clear") ∧ l.length = 1 ∨ (w = "lend" ∨ w = "pay") ∧ l.length = 2 → okK l → SF w (nD l) (dgs l)
  | some {w : Str} {l : List Int} : w = "storm" ∨ w = "find" → l ≠ [] → l.length ≤ 60 → okK l → SF w [.tup (nD l)] (dgs l)
  | refit {ns : List Int} {S : List (List Int)} : okK ns → ns.length ≤ 10 → S.length ≤ 10 → (∀ m ∈ S, okK m ∧ m ≠ [] ∧ m.length ≤ 12) → (ns ≠ [] ∨ S ≠ []) → SF "refit" [.tup (nD ns), .tup (qD S)] (dgs ns ++ setW S)
theorem SF.wf {w rest ws} (h : SF w rest ws) : WF w rest ws := by
  cases h with
  | plain a b => exact .plain a b.n
  | some a b c d => exact .some a b c d.n
  | refit a b c d e => exact .refit a.n b c (fun m hm => ⟨(d m hm).1.n, (d m hm).2⟩) e
theorem any_number_okF (d : Dr) : ∃ (n : Int) (d' : Dr), m_law_any_number [.l (drL d), .z (.bl false)] = .ok (.z (.int n)) [.l (drL d'), .z (.bl false)] ∧ 0 ≤ n ∧ n < 1000 := by
  obtain ⟨r, d1, e1, r0, r1⟩ := take_ex d 3 (by omega) (by omega)
  obtain ⟨m, hm, m1, m2⟩ : ∃ m : Int, oIx (.tup [.int 10, .int 100, .int 1000]) (.int r) = some (.z (.int m)) ∧ 1 ≤ m ∧ m ≤ 1000 := by
    rcases (by omega : r = 0 ∨ r = 1 ∨ r = 2) with rfl | rfl | rfl
    · exact ⟨10, rfl, by omega, by omega⟩
    · exact ⟨100, rfl, by omega, by omega⟩
    · exact ⟨1000, rfl, by omega, by omega⟩
  obtain ⟨n, d2, e2, n0, n1⟩ := take_ex d1 m (by omega) (by omega)
  refine ⟨n, d2, ?_, n0, by omega⟩
  unfold m_law_any_number b_law_any_number
  simp -implicitDefEqProofs [e1, hm, e2]

theorem nums_compF (k : Nat) (enc : Dr → List T) (hw : ∀ d, wipeT (enc d) [k] = enc d)
    (ht : ∀ (d d' : Dr) (n : Int) (x : D), m_law_any_number [.l (drL d), .z (.bl false)] = .ok (.z (.int n)) [.l (drL d'), .z (.bl false)] → (cTurn (Tg.n k).put (M.ret true) (zT (callM m_law_any_number [some 0, none] (argTk 0 (argEx (rdz 1) (M.ret []))))) x (enc d)).wipe [k] = .ok (some (.int n)) (enc d'))
    (ds : List D) (d : Dr) : ∃ (l : List Int) (d' : Dr), compR [k] (Tg.n k).put (M.ret true) (zT (callM m_law_any_number [some 0, none] (argTk 0 (argEx (rdz 1) (M.ret []))))) ds (enc d) = .ok (nD l) (enc d') ∧ l.length = ds.length ∧ okK l := by
  have key : ∀ d : Dr, ∃ p : Int × Dr, m_law_any_number [.l (drL d), .z (.bl false)] = .ok (.z (.int p.1)) [.l (drL p.2), .z (.bl false)] ∧ 0 ≤ p.1 ∧ p.1 < 1000 := fun d => by
    obtain ⟨n, d', e, h1, h2⟩ := any_number_okF d
    exact ⟨(n, d'), e, h1, h2⟩
  let f : Dr → Int × Dr := fun d => Classical.choose (key d)
  have hf : ∀ d, m_law_any_number [.l (drL d), .z (.bl false)] = .ok (.z (.int (f d).1)) [.l (drL (f d).2), .z (.bl false)] ∧ 0 ≤ (f d).1 ∧ (f d).1 < 1000 := fun d => Classical.choose_spec (key d)
  obtain ⟨l, d', e, hl, hp, _⟩ := compR_ints (vs := [k]) (put := (Tg.n k).put) (mc := M.ret true) enc f (fun x => 0 ≤ x ∧ x < 1000) (fun _ => True) ds d (enc d) trivial (hw d) fun d x _ _ =>
    ⟨ht d _ _ x (hf d).1, trivial, (hf d).2⟩
  exact ⟨l, d', e, hl, hp⟩
theorem lf_turnF (d : Dr) (z2 z3 : T) (S : List (List Int)) (hS : S.length ≤ 100) (u : T) (x : D) : ∃ (m : List Int) (d' : Dr), l0_law_loose_fact [.l (drL d), .z (.bl false), z2, z3, .l (qT S), u, .gone] = .nx [.l (drL d'), .z (.bl false), z2, z3, .l (qT (S ++ [m])), u, .gone] ∧ okK m ∧ m ≠ [] ∧ m.length ≤ 12 := by
  have t1 := take_ok d 5 (by omega) (by omega)
  have l1 := take_lo d (m := 5) (by omega)
  have g1 := take_hi d (m := 5) (by omega)
  generalize hr1 : (d.take 5).1 = r1 at *
  generalize hd1 : (d.take 5).2 = d1 at *
  obtain ⟨m, d2, e, hl, hn⟩ := nums_compF 6 (fun d => [.l (drL d), .z (.bl false), z2, z3, .l (qT S), u, .gone]) (fun _ => rfl) (fun d d' n x h => by
    simp -implicitDefEqProofs [h]) (nD (uI 0 (1 + r1))) d1
  rw [nD_length, uI_length] at hl
  have l2 : S.length < lim := by unfold lim; omega
  have l3 : m.length ≤ lim := by unfold lim; omega
  have l0 : 0 < m.length := by omega
  have rg : big62 (1 + r1) := by unfold big62; omega
  refine ⟨m, d2, ?_, hn, List.length_pos_iff.mp l0, by omega⟩
  unfold l0_law_loose_fact
  simp -implicitDefEqProofs [t1, e, l2, l3, rg]
theorem lf_loopF (z2 z3 : T) : ∀ (ds : List D) (d : Dr) (S : List (List Int)) (u : T), (∀ m ∈ S, okK m ∧ m ≠ [] ∧ m.length ≤ 12) → S.length + ds.length ≤ 10 → ∃ (S' : List (List Int)) (d' : Dr) (u' : T), loopS (Tg.n 5).put l0_law_loose_fact ds [.l (drL d), .z (.bl false), z2, z3, .l (qT S), u, .gone] = .nx [.l (drL d'), .z (.bl false), z2, z3, .l (qT S'), u', .gone] ∧ (∀ m ∈ S', okK m ∧ m ≠ [] ∧ m.length ≤ 12) ∧ S'.length ≤ 10
  | [], d, S, u, h, hl => ⟨S, d, u, rfl, h, by simpa using hl⟩
  | x :: ds, d, S, u, h, hl => by
    rw [List.length_cons] at hl
    obtain ⟨m, d1, e, h1⟩ := lf_turnF d z2 z3 S (by omega) (.z x) x
    obtain ⟨S', d2, u', e2, h2⟩ := lf_loopF z2 z3 ds d1 (S ++ [m]) (.z x) (fun y hy => by
      rcases List.mem_append.mp hy with q | q
      · exact h y q
      · rw [List.mem_singleton.mp q]; exact h1) (by rw [List.length_append]; simp; omega)
    refine ⟨S', d2, u', ?_, h2⟩
    rw [loopS_cons, ← e2]
    simp -implicitDefEqProofs [e]
theorem loose_okF (d : Dr) : ∃ (w : Str) (rest : List D) (d' : Dr), m_law_loose_fact [.l (drL d), .z (.bl false)] = .ok (.z (fct w rest)) [.l (drL d'), .z (.bl false)] ∧ ∃ ws, SF w rest ws := by
  have t1 := take_ok d 8 (by omega) (by omega)
  have l1 := take_lo d (m := 8) (by omega)
  have g1 := take_hi d (m := 8) (by omega)
  generalize hr1 : (d.take 8).1 = r1 at *
  generalize hd1 : (d.take 8).2 = d1 at *
  have o1 := fun a => oIn_2 a "fell" "clear"
  have o2 := fun a => oIn_2 a "lend" "pay"
  have fin1 : ∀ w : Str, w = "fell" ∨ w = "clear" → atI [D.str "fell", D.str "refit", D.str "refit", D.str "storm", D.str "find", D.str "lend", D.str "pay", D.str "clear"] r1 = some (.str w) → ∃ (w : Str) (rest : List D) (d' : Dr), m_law_loose_fact [.l (drL d), .z (.bl false)] = .ok (.z (fct w rest)) [.l (drL d'), .z (.bl false)] ∧ ∃ ws, SF w rest ws := fun w hw ha => by
    obtain ⟨n, d2, e, n0, n1⟩ := any_number_okF d1
    refine ⟨w, [.int n], d2, ?_, _, .plain (l := [n]) (.inl ⟨hw, rfl⟩) (okK_1 n0 n1)⟩
    have o1 := o1 w
    rw [show (decide ("fell" = w) || decide ("clear" = w)) = true by rcases hw with rfl | rfl <;> decide] at o1
    unfold m_law_loose_fact b_law_loose_fact fct
    simp -implicitDefEqProofs [t1, ha, o1, e]
  have fin2 : ∀ w : Str, w = "lend" ∨ w = "pay" → atI [D.str "fell", D.str "refit", D.str "refit", D.str "storm", D.str "find", D.str "lend", D.str "pay", D.str "clear"] r1 = some (.str w) → ∃ (w : Str) (rest : List D) (d' : Dr), m_law_loose_fact [.l (drL d), .z (.bl false)] = .ok (.z (fct w rest)) [.l (drL d'), .z (.bl false)] ∧ ∃ ws, SF w rest ws := fun w hw ha => by
    obtain ⟨n, d2, e, n0, n1⟩ := any_number_okF d1
    obtain ⟨m, d3, e2, m0, m1⟩ := any_number_okF d2
    refine ⟨w, [.int n, .int m], d3, ?_, _, .plain (l := [n, m]) (.inr ⟨hw, rfl⟩) (okK_2 n0 n1 m0 m1)⟩
    have o1 := o1 w
    rw [show (decide ("fell" = w) || decide ("clear" = w)) = false by rcases hw with rfl | rfl <;> decide] at o1
    have o2 := o2 w
    rw [show (decide ("lend" = w) || decide ("pay" = w)) = true by rcases hw with rfl | rfl <;> decide] at o2
    unfold m_law_loose_fact b_law_loose_fact fct
    simp -implicitDefEqProofs [t1, ha, o1, o2, e, e2]
  have fin3 : ∀ w : Str, w = "storm" ∨ w = "find" ∨ w = "refit" → atI [D.str "fell", D.str "refit", D.str "refit", D.str "storm", D.str "find", D.str "lend", D.str "pay", D.str "clear"] r1 = some (.str w) → ∃ (w : Str) (rest : List D) (d' : Dr), m_law_loose_fact [.l (drL d), .z (.bl false)] = .ok (.z (fct w rest)) [.l (drL d'), .z (.bl false)] ∧ ∃ ws, SF w rest ws := fun w hw ha => by
    have o1 := o1 w
    rw [show (decide ("fell" = w) || decide ("clear" = w)) = false by rcases hw with rfl | rfl | rfl <;> decide] at o1
    have o2 := o2 w
    rw [show (decide ("lend" = w) || decide ("pay" = w)) = false by rcases hw with rfl | rfl | rfl <;> decide] at o2
    have t2 := take_ok d1 6 (by omega) (by omega)
    have l2 := take_lo d1 (m := 6) (by omega)
    have g2 := take_hi d1 (m := 6) (by omega)
    generalize hr2 : (d1.take 6).1 = r2 at *
    generalize hd2 : (d1.take 6).2 = d2 at *
    obtain ⟨l, d3, e, hl, hn⟩ := nums_compF 5 (fun d => [.l (drL d), .z (.bl false), .z (.str w), .gone, .gone, .gone, .gone]) (fun _ => rfl) (fun d d' n x h => by
      simp -implicitDefEqProofs [h]) (nD (uI 0 (1 + r2))) d2
    rw [nD_length, uI_length] at hl
    have ll : l.length ≤ lim := by unfold lim; omega
    have l0 : 0 < l.length := by omega
    have rg : big62 (1 + r2) := by unfold big62; omega
    have sok : PyData.strOk w = true := by rcases hw with rfl | rfl | rfl <;> decide +kernel
    have one := oNe_strs w "refit" sok (by decide +kernel)
    by_cases hr : w = "refit"
    · rw [decide_eq_true hr] at one
      have t3 := take_ok d3 5 (by omega) (by omega)
      have l3 := take_lo d3 (m := 5) (by omega)
      have g3 := take_hi d3 (m := 5) (by omega)
      generalize hr3 : (d3.take 5).1 = r3 at *
      generalize hd3 : (d3.take 5).2 = d4 at *
      have rg3 : big62 r3 := by unfold big62; omega
      obtain ⟨S, d5, u', es, hS, lS⟩ := lf_loopF (.z (.str w)) (.z (.tup (nD l))) (nD (uI 0 r3)) d4 [] .gone (fun m hm => nomatch hm) (by rw [nD_length, uI_length]; simp; omega)
      have ll2 : (qD S).length ≤ lim := by rw [qD_length]; unfold lim; omega
      have q0 : T.l [] = .l (qT []) := rfl
      have t4 := take_ok d5 3 (by omega) (by omega)
      have l4 := take_lo d5 (m := 3) (by omega)
      generalize hr4 : (d5.take 3).1 = r4 at *
      generalize hd4 : (d5.take 3).2 = d6 at *
      have sn : oNe (.lst (qD S)) (.lst (qD [])) = some (.z (.bl (!decide (S = [])))) := by
        show oNe (.lst (qD S)) (.lst []) = _
        have k := oEq_qD_nil S
        unfold oEq at k
        unfold oNe
        by_cases c : okq (.lst (qD S)) = true ∧ okq (.lst []) = true
        · rw [if_pos c] at k ⊢
          injection k with k; injection k with k; injection k with k
          rw [k]
        · rw [if_neg c] at k; cases k
      by_cases h0 : S = []
      · refine ⟨w, [.tup (nD l), .tup (qD S)], d5, ?_, dgs l ++ setW S, by rw [hr]; exact .refit hn (by omega) lS hS (.inl (List.length_pos_iff.mp l0))⟩
        rw [decide_eq_true h0] at sn
        unfold m_law_loose_fact b_law_loose_fact fct
        simp -implicitDefEqProofs [t1, ha, o1, o2, t2, rg, e, ll, one, t3, rg3, q0, es, sn, ll2, atoms_nD, atoms_qD]
      · rw [decide_eq_false h0] at sn
        by_cases h4 : r4 = 0
        · refine ⟨w, [.tup (nD []), .tup (qD S)], d6, ?_, dgs [] ++ setW S, by rw [hr]; exact .refit (ns := []) (fun x hx => nomatch hx) (by simp) lS hS (.inr h0)⟩
          unfold m_law_loose_fact b_law_loose_fact fct
          simp -implicitDefEqProofs [t1, ha, o1, o2, t2, rg, e, ll, one, t3, rg3, q0, es, sn, t4, h4, ll2, atoms_nD, atoms_qD]
          rfl
        · refine ⟨w, [.tup (nD l), .tup (qD S)], d6, ?_, dgs l ++ setW S, by rw [hr]; exact .refit hn (by omega) lS hS (.inl (List.length_pos_iff.mp l0))⟩
          unfold m_law_loose_fact b_law_loose_fact fct
          simp -implicitDefEqProofs [t1, ha, o1, o2, t2, rg, e, ll, one, t3, rg3, q0, es, sn, t4, h4, ll2, atoms_nD, atoms_qD]
    · rw [decide_eq_false hr] at one
      have hw' : w = "storm" ∨ w = "find" := by rcases hw with h | h | h; exact .inl h; exact .inr h; exact absurd h hr
      refine ⟨w, [.tup (nD l)], d3, ?_, _, .some hw' (List.length_pos_iff.mp l0) (by omega) hn⟩
      unfold m_law_loose_fact b_law_loose_fact fct
      simp -implicitDefEqProofs [t1, ha, o1, o2, t2, rg, e, ll, one]
  rcases (by omega : r1 = 0 ∨ r1 = 1 ∨ r1 = 2 ∨ r1 = 3 ∨ r1 = 4 ∨ r1 = 5 ∨ r1 = 6 ∨ r1 = 7) with rfl | rfl | rfl | rfl | rfl | rfl | rfl | rfl
  · exact fin1 "fell" (.inl rfl) rfl
  · exact fin3 "refit" (.inr (.inr rfl)) rfl
  · exact fin3 "refit" (.inr (.inr rfl)) rfl
  · exact fin3 "storm" (.inl rfl) rfl
  · exact fin3 "find" (.inr (.inl rfl)) rfl
  · exact fin2 "lend" (.inl rfl) rfl
  · exact fin2 "pay" (.inr rfl) rfl
  · exact fin1 "clear" (.inr rfl) rfl
end Ar
namespace Ar
open PySem PySem.Spec PyProof.Rows L2
/-! k10: the law -/
/-! short texts -/
def tot (ws : List Str) : Nat := (ws.map fun x => x.length + 1).sum
theorem tot_app (a b : List Str) : tot (a ++ b) = tot a + tot b := by unfold tot; rw [List.map_append, List.sum_append]
theorem tot_cons (a : Str) (b : List Str) : tot (a :: b) = a.length + 1 + tot b := by unfold tot; rw [List.map_cons, List.sum_cons]
theorem tot_le {c : Nat} : ∀ {ws : List Str}, (∀ x ∈ ws, x.length ≤ c) → tot ws ≤ (c + 1) * ws.length
  | [], _ => Nat.le_refl _
  | x :: ws, h => by
    have := tot_le fun y hy => h y (List.mem_cons_of_mem _ hy)
    have h1 := h x List.mem_cons_self
    rw [tot_cons, List.length_cons, Nat.mul_succ]
    omega
theorem dg_k {n : Int} {k : Nat} (hk : 1 ≤ k) (h0 : 0 ≤ n) (h : n < (10 : Int) ^ k) : (dg n).length ≤ k := by
  obtain ⟨m, rfl⟩ : ∃ m : Nat, n = m := ⟨n.toNat, by omega⟩
  rw [dg_tx, tx_length]
  exact TL.numL_len hk (by have : ((10 ^ k : Nat) : Int) = (10 : Int) ^ k := by push_cast; rfl
                           omega)
theorem dgs_k {l : List Int} {k : Nat} (hk : 1 ≤ k) (h : ∀ x ∈ l, 0 ≤ x ∧ x < (10 : Int) ^ k) : tot (dgs l) ≤ (k + 1) * l.length := by
  have := tot_le (c := k) (ws := dgs l) fun x hx => by
    obtain ⟨n, hn, rfl⟩ := List.mem_map.mp hx
    exact dg_k hk (h n hn).1 (h n hn).2
  rw [dgs_len] at this
  exact this
theorem setW_k {k c : Nat} (hk : 1 ≤ k) : ∀ {S : List (List Int)}, (∀ m ∈ S, ∀ x ∈ m, 0 ≤ x ∧ x < (10 : Int) ^ k) → tot (setW S) ≤ 2 * S.length + (k + 1) * S.flatten.length
  | [], _ => Nat.le_refl _
  | m :: S, h => by
    have ih := setW_k (c := c) hk (S := S) fun x hx => h x (List.mem_cons_of_mem _ hx)
    have d := dgs_k hk (h m List.mem_cons_self)
    have e : setW (m :: S) = ("/" : Str) :: (dgs m ++ setW S) := by unfold setW; rw [List.flatMap_cons]; rfl
    have q : ("/" : Str).length = 1 := by decide
    have e2 : (k + 1) * (m.length + S.flatten.length) = (k + 1) * m.length + (k + 1) * S.flatten.length := Nat.mul_add ..
    rw [e, tot_cons, tot_app, List.flatten_cons, List.length_append, List.length_cons, e2, q]
    omega
theorem flat_le {c : Nat} : ∀ {S : List (List Int)}, (∀ m ∈ S, m.length ≤ c) → S.flatten.length ≤ c * S.length
  | [], _ => Nat.le_refl _
  | m :: S, h => by
    have := flat_le fun x hx => h x (List.mem_cons_of_mem _ hx)
    have := h m List.mem_cons_self
    rw [List.flatten_cons, List.length_append, List.length_cons, Nat.mul_succ]
    omega
theorem sum_succ : ∀ ws : List Str, (ws.map fun x => x.length + 1).sum = (ws.map (List.length ∘ TL.tl)).sum + ws.length * 1
  | [] => rfl
  | x :: ws => by
    rw [List.map_cons, List.sum_cons, List.map_cons, List.sum_cons, sum_succ ws, TL.len_tl x, List.length_cons]
    show _ = (TL.tl x).length + _ + _
    omega
theorem textW_tot (ws : List Str) : (textW ws).length ≤ tot ws := by
  unfold textW
  rw [TL.len_tl, TL.join_eq, TL.tl_join]
  have := joinL_len (TL.tl " ") (ws.map TL.tl)
  rw [List.map_map, List.length_map, sp_tl] at this
  rw [sp_tl]
  unfold tot
  rw [sum_succ]
  exact this
theorem w5 : ∀ x ∈ (["fell", "clear", "lend", "pay", "storm", "find", "refit"] : List Str), x.length ≤ 5 ∧ okG (TL.tl x) := by
  have : ∀ x ∈ (["fell", "clear", "lend", "pay", "storm", "find", "refit"] : List Str), x.length ≤ 5 ∧ ∀ c ∈ TL.tl x, c ∈ figs ++ odds := by decide +kernel
  exact this
theorem SF.tot {w rest ws} (h : SF w rest ws) : Ar.tot (w :: ws) ≤ 616 := by
  rw [tot_cons]
  cases h with
  | @plain _ l a b =>
    have := (w5 w (by rcases a with ⟨a | a, _⟩ | ⟨a | a, _⟩ <;> rw [a] <;> simp)).1
    have := dgs_k (k := 3) (by omega) b
    have : l.length ≤ 2 := by omega
    omega
  | @some _ l a b c d =>
    have := (w5 w (by rcases a with a | a <;> rw [a] <;> simp)).1
    have := dgs_k (k := 3) (by omega) d
    omega
  | @refit ns S a b c d e =>
    have := (w5 "refit" (by simp)).1
    have h1 := dgs_k (k := 3) (by omega) a
    have h2 := setW_k (k := 3) (c := 0) (by omega) fun m hm => (d m hm).1
    have h3 := flat_le (c := 12) fun m hm => (d m hm).2.2
    rw [tot_app]
    omega
theorem DF.tot {s : Int} (hs : s ≤ 12) {w : Str} {rest : List D} (h : DF s w rest) : ∃ ws, WF w rest ws ∧ Ar.tot (w :: ws) ≤ 616 := by
  cases h with
  | @fell n h1 h2 =>
    refine ⟨_, .plain (l := [n]) (.inl ⟨.inl rfl, rfl⟩) (okN_1 (by omega) (by unfold big; omega)), ?_⟩
    have := (w5 "fell" (by simp)).1
    have := dgs_k (l := [n]) (k := 3) (by omega) fun x hx => by rw [List.mem_singleton.mp hx]; omega
    rw [tot_cons]
    simp at this
    omega
  | @clear n h1 h2 =>
    refine ⟨_, .plain (l := [n]) (.inl ⟨.inr rfl, rfl⟩) (okN_1 (by omega) (by unfold big; omega)), ?_⟩
    have := (w5 "clear" (by simp)).1
    have := dgs_k (l := [n]) (k := 3) (by omega) fun x hx => by rw [List.mem_singleton.mp hx]; omega
    rw [tot_cons]
    simp at this
    omega
  | @money w n c h1 h2 h3 h4 h5 =>
    refine ⟨_, .plain (l := [n, c]) (.inr ⟨h1, rfl⟩) (okN_2 (by omega) (by unfold big; omega) (by omega) (by unfold big; omega)), ?_⟩
    have := (w5 w (by rcases h1 with a | a <;> rw [a] <;> simp)).1
    have := dgs_k (l := [n, c]) (k := 7) (by omega) fun x hx => by
      rcases List.mem_cons.mp hx with rfl | hx
      · omega
      · rw [List.mem_singleton.mp hx]; omega
    rw [tot_cons]
    simp at this
    omega
  | @some w l h1 h2 h3 h4 =>
    have l6 := len_60 h3 h4
    refine ⟨_, .some h1 h2 l6 (okN_of (by omega) (by omega) h4), ?_⟩
    have := (w5 w (by rcases h1 with a | a <;> rw [a] <;> simp)).1
    have := dgs_k (l := l) (k := 2) (by omega) fun x hx => by have := h4 x hx; omega
    rw [tot_cons]
    omega
  | @refit names sets R =>
    refine ⟨_, .refit (okN_of (by omega) (by omega) R.nr) (by have := R.nl; omega) (by have := R.sl; omega) (fun m hm => ?_) R.ne, ?_⟩
    · have a := R.sn m hm
      exact ⟨okN_of (lo := 1) (hi := 60) (by omega) (by omega) fun x hx => R.sr x (List.mem_flatten.mpr ⟨m, hm, hx⟩), a.1, by omega⟩
    · have := (w5 "refit" (by simp)).1
      have h1 := dgs_k (l := names) (k := 4) (by omega) fun x hx => by have := R.nr x hx; omega
      have h2 := setW_k (S := sets) (k := 2) (c := 0) (by omega) fun m hm x hx => by have := R.sr x (List.mem_flatten.mpr ⟨m, hm, hx⟩); omega
      have h3 := len_60 R.sf R.sr
      have := R.nl
      have := R.sl
      rw [tot_cons, tot_app]
      omega
theorem dgs_ok {l : List Int} (h : okN l) : ∀ x ∈ dgs l, okG (TL.tl x) := fun x hx => by
  obtain ⟨n, hn, rfl⟩ := List.mem_map.mp hx
  obtain ⟨m, rfl⟩ : ∃ m : Nat, n = m := ⟨n.toNat, by have := (h n hn).1; omega⟩
  rw [dg_tx]
  exact numL_ok m
theorem setW_ok : ∀ {S : List (List Int)}, (∀ m ∈ S, okN m) → ∀ x ∈ setW S, okG (TL.tl x)
  | [], _, x, hx => nomatch hx
  | m :: S, h, x, hx => by
    have e : setW (m :: S) = ("/" : Str) :: (dgs m ++ setW S) := by unfold setW; rw [List.flatMap_cons]; rfl
    rw [e] at hx
    rcases List.mem_cons.mp hx with rfl | hx
    · exact (by decide +kernel : ∀ c ∈ TL.tl ("/" : Str), c ∈ figs ++ odds)
    · rcases List.mem_append.mp hx with hx | hx
      · exact dgs_ok (h m List.mem_cons_self) x hx
      · exact setW_ok (fun z hz => h z (List.mem_cons_of_mem _ hz)) x hx
theorem WF.okG {w rest ws} (h : WF w rest ws) : ∀ x ∈ w :: ws, Ar.okG (TL.tl x) := by
  have mk : w ∈ (["fell", "clear", "lend", "pay", "storm", "find", "refit"] : List Str) → (∀ x ∈ ws, Ar.okG (TL.tl x)) → ∀ x ∈ w :: ws, Ar.okG (TL.tl x) := fun hw hg x hx => by
    rcases List.mem_cons.mp hx with rfl | hx
    · exact (w5 _ hw).2
    · exact hg x hx
  cases h with
  | plain a b => exact mk (by rcases a with ⟨a | a, _⟩ | ⟨a | a, _⟩ <;> rw [a] <;> simp) (dgs_ok b)
  | some a b c d => exact mk (by rcases a with a | a <;> rw [a] <;> simp) (dgs_ok d)
  | refit a b c d e =>
    refine mk (by simp) fun x hx => ?_
    rcases List.mem_append.mp hx with hx | hx
    · exact dgs_ok a x hx
    · exact setW_ok (fun m hm => (d m hm).1) x hx
theorem textW_okG {ws : List Str} (h : ∀ x ∈ ws, okG (TL.tl x)) : okG (TL.tl (textW ws)) := by
  have := joinL_all (fun c => decide (c ∈ figs ++ odds)) [32] (by decide) (ws.map TL.tl) fun x hx => by
    obtain ⟨y, hy, rfl⟩ := List.mem_map.mp hx
    rw [List.all_eq_true]
    intro c hc
    exact decide_eq_true (h y hy c hc)
  unfold textW
  rw [TL.join_eq, TL.tl_join, sp_tl]
  rw [List.all_eq_true] at this
  exact fun c hc => of_decide_eq_true (this c hc)
theorem fact_tx {w rest ws} (h : WF w rest ws) (ht : tot (w :: ws) ≤ 616) : ∃ l, textW (w :: ws) = tx l ∧ okG l ∧ l.length ≤ 616 := by
  refine ⟨TL.tl (textW (w :: ws)), (tx_of _).symm, textW_okG h.okG, ?_⟩
  rw [← TL.len_tl]
  exact Nat.le_trans (textW_tot _) ht
/-! the odd texts -/
theorem sq_nx {A B : S} {ts ts1} (h : A ts = .nx ts1) : sq A B ts = B ts1 := by rw [sq_ap, h]; rfl
def oddL : List Str := ["", " ", "refit", "refit ", "refit /", "refit / /", "refit 1 /", "refit / 1 /", "refit 1 / 2", "refit /1", "storm", "find ", "fell", "fell 1 2", "lend 10", "Fell 3", "fells 3", "fell 03", " fell 3", "fell  3", "fell -3", "storm 1 / 2", "fell /", "clear 4 ", "pay 10 2 3", "refit 1  / 2"]
theorem odd_ok : ∀ x ∈ oddL, (∀ c ∈ TL.tl x, c ∈ figs ++ odds) ∧ (TL.tl x).length ≤ 616 := by decide +kernel
theorem odd_tx {x : Str} (h : x ∈ oddL) : ∃ l, x = tx l ∧ okG l ∧ l.length ≤ 616 := ⟨TL.tl x, (tx_of _).symm, (odd_ok x h).1, (odd_ok x h).2⟩
theorem odd_at {r : Int} (h0 : 0 ≤ r) (h1 : r < 26) : ∃ x ∈ oddL, oIx (.lst (sD oddL)) (.int r) = some (.z (.str x)) := by
  obtain ⟨n, rfl⟩ : ∃ n : Nat, r = n := ⟨r.toNat, by omega⟩
  have hn : n < oddL.length := by show n < 26; omega
  refine ⟨oddL[n], List.getElem_mem hn, ?_⟩
  rw [oIx_lst, atI_nat]
  unfold sD
  rw [List.getElem?_map, List.getElem?_eq_getElem hn]
  rfl
theorem bent_loop {z0 z2 z3 z4 z5 : T} : ∀ (ds : List D) (l : List Nat) (d : Dr) (u : T), okG l → l.length + 3 * ds.length ≤ 640 →
    ∃ (l' : List Nat) (d' : Dr) (u' : T), loopS (Tg.n 7).put l0_law ds [z0, .l (drL d), z2, z3, z4, z5, .z (.str (tx l)), u] = .nx [z0, .l (drL d'), z2, z3, z4, z5, .z (.str (tx l')), u'] ∧ okG l' ∧ l'.length ≤ 640
  | [], l, d, u, h, hl => ⟨l, d, u, rfl, h, by simpa using hl⟩
  | x :: ds, l, d, u, h, hl => by
    rw [List.length_cons] at hl
    obtain ⟨l1, d1, e1, h1, hl1⟩ := bent_ok d h (by omega)
    obtain ⟨l2, d2, u2, e2, r⟩ := bent_loop (z0 := z0) (z2 := z2) (z3 := z3) (z4 := z4) (z5 := z5) ds l1 d1 (.z x) h1 (by omega)
    refine ⟨l2, d2, u2, ?_, r⟩
    rw [loopS_cons, ← e2]
    unfold l0_law
    simp -implicitDefEqProofs [e1]

theorem law_true : LawTrue := by
  intro ns _
  have e0 := begin_ok ns
  have a0 : q0_law [.z (.scr ns), .gone, .gone, .gone, .gone, .gone, .gone, .gone] = .nx [.z (.scr ns), .l (drL (beginD ns)), .gone, .gone, .gone, .gone, .gone, .gone] := by
    unfold q0_law
    simp -implicitDefEqProofs [e0]
  have a1 : q1_law [.z (.scr ns), .l (drL (beginD ns)), .gone, .gone, .gone, .gone, .gone, .gone] = .nx [.z (.scr ns), .l (drL (beginD ns)), .z (.lst [.str "", .str " ", .str "refit", .str "refit ", .str "refit /", .str "refit / /", .str "refit 1 /", .str "refit / 1 /", .str "refit 1 / 2", .str "refit /1"]), .gone, .gone, .gone, .gone, .gone] := by
    unfold q1_law
    simp -implicitDefEqProofs
  have a2 : q2_law [.z (.scr ns), .l (drL (beginD ns)), .z (.lst [.str "", .str " ", .str "refit", .str "refit ", .str "refit /", .str "refit / /", .str "refit 1 /", .str "refit / 1 /", .str "refit 1 / 2", .str "refit /1"]), .gone, .gone, .gone, .gone, .gone] = .nx [.z (.scr ns), .l (drL (beginD ns)), .z (.lst [.str "", .str " ", .str "refit", .str "refit ", .str "refit /", .str "refit / /", .str "refit 1 /", .str "refit / 1 /", .str "refit 1 / 2", .str "refit /1", .str "storm", .str "find ", .str "fell", .str "fell 1 2", .str "lend 10", .str "Fell 3", .str "fells 3", .str "fell 03", .str " fell 3", .str "fell  3"]), .gone, .gone, .gone, .gone, .gone] := by
    unfold q2_law
    simp -implicitDefEqProofs [lim]
  have a3 : q3_law [.z (.scr ns), .l (drL (beginD ns)), .z (.lst [.str "", .str " ", .str "refit", .str "refit ", .str "refit /", .str "refit / /", .str "refit 1 /", .str "refit / 1 /", .str "refit 1 / 2", .str "refit /1", .str "storm", .str "find ", .str "fell", .str "fell 1 2", .str "lend 10", .str "Fell 3", .str "fells 3", .str "fell 03", .str " fell 3", .str "fell  3"]), .gone, .gone, .gone, .gone, .gone] = .nx [.z (.scr ns), .l (drL (beginD ns)), .z (.lst (sD oddL)), .gone, .gone, .gone, .gone, .gone] := by
    have eo : sD oddL = [.str "", .str " ", .str "refit", .str "refit ", .str "refit /", .str "refit / /", .str "refit 1 /", .str "refit / 1 /", .str "refit 1 / 2", .str "refit /1", .str "storm", .str "find ", .str "fell", .str "fell 1 2", .str "lend 10", .str "Fell 3", .str "fells 3", .str "fell 03", .str " fell 3", .str "fell  3", .str "fell -3", .str "storm 1 / 2", .str "fell /", .str "clear 4 ", .str "pay 10 2 3", .str "refit 1  / 2"] := rfl
    rw [eo]
    unfold q3_law
    simp -implicitDefEqProofs [lim]
  obtain ⟨way, d1, e1, w0, w1⟩ := take_ex (beginD ns) 8 (by omega) (by omega)
  have a4 : q4_law [.z (.scr ns), .l (drL (beginD ns)), .z (.lst (sD oddL)), .gone, .gone, .gone, .gone, .gone] = .nx [.z (.scr ns), .l (drL d1), .z (.lst (sD oddL)), .z (.int way), .gone, .gone, .gone, .gone] := by
    unfold q4_law
    simp -implicitDefEqProofs [e1]
  obtain ⟨r, d2, e2, r0, r1⟩ := take_ex d1 6 (by omega) (by omega)
  obtain ⟨b, hb, b0, b1⟩ : ∃ b : Int, oIx (.tup [.int 0, .int 1, .int 1, .int 1, .int 2, .int 1]) (.int r) = some (.z (.int b)) ∧ 0 ≤ b ∧ b ≤ 2 := by
    rcases (by omega : r = 0 ∨ r = 1 ∨ r = 2 ∨ r = 3 ∨ r = 4 ∨ r = 5) with rfl | rfl | rfl | rfl | rfl | rfl
    · exact ⟨0, rfl, by omega, by omega⟩
    · exact ⟨1, rfl, by omega, by omega⟩
    · exact ⟨1, rfl, by omega, by omega⟩
    · exact ⟨1, rfl, by omega, by omega⟩
    · exact ⟨2, rfl, by omega, by omega⟩
    · exact ⟨1, rfl, by omega, by omega⟩
  have a5 : q5_law [.z (.scr ns), .l (drL d1), .z (.lst (sD oddL)), .z (.int way), .gone, .gone, .gone, .gone] = .nx [.z (.scr ns), .l (drL d2), .z (.lst (sD oddL)), .z (.int way), .z (.int b), .gone, .gone, .gone] := by
    generalize sD oddL = OD at *
    unfold q5_law
    simp -implicitDefEqProofs [e2, hb]
  obtain ⟨s, d3, e3, s1, s2⟩ := slip_ok d2
  obtain ⟨w, rest, d4, e4, hf⟩ := sound_fact_ok d3 s s1 s2
  obtain ⟨ws, wf, wt⟩ := hf.tot s2
  have a6 : q6_law [.z (.scr ns), .l (drL d2), .z (.lst (sD oddL)), .z (.int way), .z (.int b), .gone, .gone, .gone] = .nx [.z (.scr ns), .l (drL d4), .z (.lst (sD oddL)), .z (.int way), .z (.int b), .z (fct w rest), .gone, .gone] := by
    generalize sD oddL = OD at *
    generalize fct w rest = fd at *
    unfold q6_law
    simp -implicitDefEqProofs [e3, e4]
  obtain ⟨v, more, vs, d5, vf, vt, a7⟩ : ∃ (v : Str) (more : List D) (vs : List Str) (d5 : Dr), WF v more vs ∧ tot (v :: vs) ≤ 616 ∧ q7_law [.z (.scr ns), .l (drL d4), .z (.lst (sD oddL)), .z (.int way), .z (.int b), .z (fct w rest), .gone, .gone] = .nx [.z (.scr ns), .l (drL d5), .z (.lst (sD oddL)), .z (.int way), .z (.int b), .z (fct v more), .gone, .gone] := by
    obtain ⟨x, d5, e5, x0, x1⟩ := take_ex d4 3 (by omega) (by omega)
    by_cases c : x = 0
    · obtain ⟨v, more, d6, e6, vs, hv⟩ := loose_okF d5
      refine ⟨v, more, vs, d6, hv.wf, hv.tot, ?_⟩
      generalize sD oddL = OD at *
      generalize fct w rest = fd at *
      generalize fct v more = fe at *
      unfold q7_law
      simp -implicitDefEqProofs [e5, c, e6]
    · refine ⟨w, rest, ws, d5, wf, wt, ?_⟩
      generalize sD oddL = OD at *
      generalize fct w rest = fd at *
      unfold q7_law
      simp -implicitDefEqProofs [e5, c]
  have ew := written_ok vf
  have a8 : q8_law [.z (.scr ns), .l (drL d5), .z (.lst (sD oddL)), .z (.int way), .z (.int b), .z (fct v more), .gone, .gone] = .nx [.z (.scr ns), .l (drL d5), .z (.lst (sD oddL)), .z (.int way), .z (.int b), .z (fct v more), .z (.str (textW (v :: vs))), .gone] := by
    generalize sD oddL = OD at *
    generalize fct v more = fe at *
    generalize textW (v :: vs) = tw at *
    unfold q8_law
    simp -implicitDefEqProofs [ew]
  obtain ⟨l, d6, hl, ll, a9⟩ : ∃ (l : List Nat) (d6 : Dr), okG l ∧ l.length ≤ 616 ∧ q9_law [.z (.scr ns), .l (drL d5), .z (.lst (sD oddL)), .z (.int way), .z (.int b), .z (fct v more), .z (.str (textW (v :: vs))), .gone] = .nx [.z (.scr ns), .l (drL d6), .z (.lst (sD oddL)), .z (.int way), .z (.int b), .z (fct v more), .z (.str (tx l)), .gone] := by
    by_cases c : way = 0
    · obtain ⟨x, d6, e6, x0, x1⟩ := take_ex d5 26 (by omega) (by omega)
      obtain ⟨y, hy, ey⟩ := odd_at x0 x1
      obtain ⟨l, e9, hl, ll⟩ := odd_tx hy
      refine ⟨l, d6, hl, ll, ?_⟩
      have ol : oLen (.lst (sD oddL)) = some (.z (.int 26)) := rfl
      rw [e9] at ey
      generalize sD oddL = OD at *
      generalize fct v more = fe at *
      generalize textW (v :: vs) = tw at *
      unfold q9_law
      simp -implicitDefEqProofs [c, ol, e6, ey]
    · obtain ⟨l, e9, hl, ll⟩ := fact_tx vf vt
      refine ⟨l, d5, hl, ll, ?_⟩
      rw [e9]
      generalize sD oddL = OD at *
      generalize fct v more = fe at *
      unfold q9_law
      simp -implicitDefEqProofs [c]
  obtain ⟨l2, d7, u7, e7, h2, hl2⟩ := bent_loop (z0 := .z (.scr ns)) (z2 := .z (.lst (sD oddL))) (z3 := .z (.int way)) (z4 := .z (.int b)) (z5 := .z (fct v more)) (nD (uI 0 b)) l d6 .gone hl (by rw [nD_length, uI_length]; omega)
  have aA : q10_law [.z (.scr ns), .l (drL d6), .z (.lst (sD oddL)), .z (.int way), .z (.int b), .z (fct v more), .z (.str (tx l)), .gone] = .nx [.z (.scr ns), .l (drL d7), .z (.lst (sD oddL)), .z (.int way), .z (.int b), .z (fct v more), .z (.str (tx l2)), u7] := by
    have rg : rng1 (.int b) = some (nD (uI 0 b)) := by rw [rng1_int, if_pos (by unfold big62; omega), upto_nD]
    generalize sD oddL = OD at *
    generalize fct v more = fe at *
    unfold q10_law
    generalize l0_law = B at *
    simp -implicitDefEqProofs [-rng1_int, rg, e7]
  obtain ⟨zs, ez, zn, zl, hz⟩ := split_any (tOk_tx h2 hl2)
  obtain ⟨x, xs, rfl⟩ : ∃ x xs, zs = x :: xs := by
    cases zs with
    | nil => exact absurd rfl zn
    | cons x xs => exact ⟨x, xs, rfl⟩
  have hx := hz x List.mem_cons_self
  have hxs : ∀ y ∈ xs, wOk y := fun y hy => hz y (List.mem_cons_of_mem _ hy)
  rw [List.length_cons] at zl
  have et := told_ok ez hx hxs (by omega)
  have er := law_read hx hxs (show xs.length ≤ 690 by omega)
  have es := same_ok 5 ((rd x xs).getD .non) (okm_rd (wOk_str hx) (by omega))
  have fz := fzs_sT (x :: xs)
  have aB : q11_law [.z (.scr ns), .l (drL d7), .z (.lst (sD oddL)), .z (.int way), .z (.int b), .z (fct v more), .z (.str (tx l2)), u7] = .rt (.z (.bl true)) [.z (.scr ns), .l (drL d7), .z (.lst (sD oddL)), .z (.int way), .z (.int b), .z (fct v more), .z (.str (tx l2)), u7] := by
    generalize sD oddL = OD at *
    generalize fct v more = fe at *
    generalize sT (x :: xs) = XT at *
    generalize sD (x :: xs) = XD at *
    generalize (rd x xs).getD .non = ans at *
    generalize tx l2 = txt at *
    unfold q11_law
    simp -implicitDefEqProofs [-oSplit_str, et, er, ez, fz, es]
  refine ⟨[.z (.scr ns)], ?_⟩
  unfold m_law b_law
  rw [bodyR_ap]
  show (sq q0_law _ [.z (.scr ns), .gone, .gone, .gone, .gone, .gone, .gone, .gone]).fin 8 [true] = _
  rw [sq_nx a0, sq_nx a1, sq_nx a2, sq_nx a3, sq_nx a4, sq_nx a5, sq_nx a6, sq_nx a7, sq_nx a8, sq_nx a9, sq_nx aA, sq_ap, aB]
  rfl
end Ar
open PySem PySem.W PyProof.Rows
set_option maxHeartbeats 0 in
theorem PySem.Challenge.cw_argosy_k10_facts_read_or_refused_holds : PySem.Challenge.rw_argosy_k10_facts_read_or_refused.Holds := by
  w_on; o_law; k_head; (case hw => w_witness2)
  k_fill
  refine L2.walk_of (l := PySem.Challenge.rw_argosy_k10_facts_read_or_refused) (n := 63) (k := 8) (x := "_law_script") (CX := fun w => L2.CX (PySem.Challenge.rw_argosy_k10_facts_read_or_refused).prog w) (sp := fun w => Ar.spEnd _) rfl (by decide) rfl ⟨by decide, by decide, by decide⟩ (fun w h Y => PySem.W.kIn_of Y) ?F (fun _ _ a ns hl _ hS => ⟨a, ns, rfl, hS, hl, fun _ => rfl⟩) (fun w H s e s' h => by obtain ⟨_, _, _, _, _, _, _, _, _, _, _, _, h⟩ := h; exact h)
  case F =>
    intro w mg fa h KX G hmg
    refine' Ar.all_mk Ar.law_true KX G hmg ?a0 ?l0 ?c0 ?k0 ?a1 ?l1 ?c1 ?k1 ?a2 ?l2 ?c2 ?k2 ?a3 ?l3 ?c3 ?k3 ?a4 ?l4 ?c4 ?k4 ?a5 ?l5 ?c5 ?k5 ?a6 ?l6 ?c6 ?k6 ?a7 ?l7 ?c7 ?k7 ?a8 ?l8 ?c8 ?k8 ?a9 ?l9 ?c9 ?k9 ?a10 ?l10 ?c10 ?k10 ?a11 ?l11 ?c11 ?k11 ?a12 ?l12 ?c12 ?k12 ?a13 ?l13 ?c13 ?k13 ?a14 ?l14 ?c14 ?k14 ?a15 ?l15 ?c15 ?k15 ?a16 ?l16 ?c16 ?k16 ?a17 ?l17 ?c17 ?k17 ?a18 ?l18 ?c18 ?k18 ?a19 ?l19 ?c19 ?k19 ?a20 ?l20 ?c20 ?k20 ?a21 ?l21 ?c21 ?k21 ?a22 ?l22 ?c22 ?k22 ?a23 ?l23 ?c23 ?k23 ?a24 ?l24 ?c24 ?k24 ?z0 ?z1 ?z2 ?z3 ?z4 ?z5 ?z6 ?z7 ?z8 ?z9 ?z10 ?z11 ?z12 ?z13 ?z14 ?xa0 ?xb0 ?xt0 ?yd0 ?xs0 ?xx0 ?xk0 ?ya0 ?yb0 ?ye0 ?yf0 ?yg0 ?yh0 ?xa1 ?xb1 ?xt1 ?yd1 ?xs1 ?xa2 ?xb2 ?xt2 ?yd2 ?xs2 ?xa3 ?xb3 ?xt3 ?yd3 ?xs3 ?xe0_0 ?xe0_1 ?xe0_2 ?xe0_3 ?ka0 ?kb0 ?kc0 ?kd0 ?gc0
    (case a0 => k_is); (case l0 => k_is); (case c0 => k_is); (case k0 => k_is); (case a1 => k_is); (case l1 => k_is); (case c1 => k_is); (case k1 => k_is); (case a2 => k_is); (case l2 => k_is); (case c2 => k_is); (case k2 => k_is); (case a3 => k_is); (case l3 => k_is); (case c3 => k_is); (case k3 => k_is); (case a4 => k_is); (case l4 => k_is); (case c4 => k_is); (case k4 => k_is); (case a5 => k_is); (case l5 => k_is); (case c5 => k_is); (case k5 => k_is); (case a6 => k_is); (case l6 => k_is); (case c6 => k_is); (case k6 => k_is); (case a7 => k_is); (case l7 => k_is); (case c7 => k_is); (case k7 => k_is); (case a8 => k_is); (case l8 => k_is); (case c8 => k_is); (case k8 => k_is); (case a9 => k_is); (case l9 => k_is); (case c9 => k_is); (case k9 => k_is); (case a10 => k_is); (case l10 => k_is); (case c10 => k_is); (case k10 => k_is); (case a11 => k_is); (case l11 => k_is); (case c11 => k_is); (case k11 => k_is); (case a12 => k_is); (case l12 => k_is); (case c12 => k_is); (case k12 => k_is); (case a13 => k_is); (case l13 => k_is); (case c13 => k_is); (case k13 => k_is); (case a14 => k_is); (case l14 => k_is); (case c14 => k_is); (case k14 => k_is); (case a15 => k_is); (case l15 => k_is); (case c15 => k_is); (case k15 => k_is); (case a16 => k_is); (case l16 => k_is); (case c16 => k_is); (case k16 => k_is); (case a17 => k_is); (case l17 => k_is); (case c17 => k_is); (case k17 => k_is); (case a18 => k_is); (case l18 => k_is); (case c18 => k_is); (case k18 => k_is); (case a19 => k_is); (case l19 => k_is); (case c19 => k_is); (case k19 => k_is); (case a20 => k_is); (case l20 => k_is); (case c20 => k_is); (case k20 => k_is); (case a21 => k_is); (case l21 => k_is); (case c21 => k_is); (case k21 => k_is); (case a22 => k_is); (case l22 => k_is); (case c22 => k_is); (case k22 => k_is); (case a23 => k_is); (case l23 => k_is); (case c23 => k_is); (case k23 => k_is); (case a24 => k_is); (case l24 => k_is); (case c24 => k_is); (case k24 => k_is); (case z0 => k_is); (case z1 => k_is); (case z2 => k_is); (case z3 => k_is); (case z4 => k_is); (case z5 => k_is); (case z6 => k_is); (case z7 => k_is); (case z8 => k_is); (case z9 => k_is); (case z10 => k_is); (case z11 => k_is); (case z12 => k_is); (case z13 => k_is); (case z14 => k_is); (case xa0 => k_is); (case xb0 => k_is); (case xt0 => k_is); (case yd0 => k_is); (case xs0 => k_is); (case xx0 => k_exc); (case xk0 => k_is); (case ya0 => k_is); (case yb0 => k_is); (case ye0 => k_is); (case yf0 => k_is); (case yg0 => k_is); (case yh0 => k_is); (case xa1 => k_is); (case xb1 => k_is); (case xt1 => k_is); (case yd1 => k_is); (case xs1 => k_is); (case xa2 => k_is); (case xb2 => k_is); (case xt2 => k_is); (case yd2 => k_is); (case xs2 => k_is); (case xa3 => k_is); (case xb3 => k_is); (case xt3 => k_is); (case yd3 => k_is); (case xs3 => k_is); (case xe0_0 => k_is); (case xe0_1 => k_is); (case xe0_2 => k_is); (case xe0_3 => k_is); (case ka0 => k_is); (case kb0 => k_is); (case kc0 => refine ⟨rfl, rfl, rfl, rfl⟩); (case kd0 => rfl); (case gc0 => k_is)
