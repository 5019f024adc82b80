import PyProof.Rows.All
import Wide.All
import OpenK.AllK
import Wide.FinOn
import HandS.ForMost
import HandS.ForExc
import HandS.Strs
import HandS.SortInts
import HandS.Deep
import HandS.Wide
import HandS.IsInst
import KE.DatumOrd
import HandS.TupAny
import HandS.SetFor
import KE.KTupSum
import HandS.Zip
import HandS.Conv
import HandS.Style
import HandS.TryOnly
import HandS.TryMany
import HandS.ExcOwn
import HandS.ExcIs
import HandS.Dict
import KE.KDictDisplayH
import HandS.TupSets
import HandS.CallLocal
import HandS.Iter
import PySem.Challenge.RW_argosy_k36_whole_plans_carry_and_none_is
set_option Elab.async false
set_option linter.all false
set_option maxRecDepth 100000
set_option maxHeartbeats 4000000
/-! ArA: data trees D, owned trees T, what represents them on the abstract heap; the state of a def. -/
namespace Ar
open PySem PySem.Spec PyProof.Rows L2

inductive D where
  | non | bl (b : Bool) | int (i : Int) | str (s : Str)
  | lst (l : List D) | tup (l : List D) | dk (l : List (Key × D)) | dt (l : List (List Key × D))
  | st (l : List Int) | scr (l : List Int) | fn (x : Str) | ob (c : Str) (fs : List (Str × D))
  deriving Inhabited

inductive T where
  | z (d : D) | l (ts : List T) | dk (kvs : List (Key × T)) | dt (kvs : List (List Key × D)) | ob (c : Str) (fs : List (Str × T)) | gone
  deriving Inhabited

structure Gx where
  K : PySem.W.Frag
  mg : Str → Option Value
  P : Program
  w : World
abbrev gx (X : Cx) : Gx := ⟨X.K, X.mg, X.prog, X.w⟩

/-! ### partial heaps -/
def Dj (A B : Hp) : Prop := ∀ a, A a = none ∨ B a = none
def jn (A B : Hp) : Hp := fun a => match A a with | some o => some o | none => B a
def em : Hp := fun _ => none
theorem Same.empty {H : Hp} : Same em H := fun _ _ h => by cases h
theorem Dj.symm {A B : Hp} (h : Dj A B) : Dj B A := fun a => (h a).symm
theorem Dj.em_l {B : Hp} : Dj em B := fun _ => .inl rfl
theorem Dj.em_r {B : Hp} : Dj B em := fun _ => .inr rfl
theorem Dj.ne {A B : Hp} {a : Addr} {o : HO} (h : Dj A B) (e : A a = some o) : B a = none := by
  rcases h a with q | q
  · rw [q] at e; cases e
  · exact q
theorem Dj.ne' {A B : Hp} {a : Addr} {o : HO} (h : Dj A B) (e : B a = some o) : A a = none := h.symm.ne e
theorem same_none {A H : Hp} {a : Addr} (h : Same A H) (e : H a = none) : A a = none := h.free e
theorem Dj.sub {A A' B B' : Hp} (h : Dj A' B') (ha : Same A A') (hb : Same B B') : Dj A B := fun a => by
  rcases h a with q | q
  · exact .inl (ha.free q)
  · exact .inr (hb.free q)
theorem jn_l {A B : Hp} : Same A (jn A B) := fun a o e => by show (match A a with | some o => some o | none => B a) = _; rw [e]
theorem jn_r {A B : Hp} (h : Dj A B) : Same B (jn A B) := fun a o e => by
  show (match A a with | some o => some o | none => B a) = _
  rw [h.ne' e]; exact e
theorem jn_some {A B : Hp} {a : Addr} {o : HO} (e : jn A B a = some o) : A a = some o ∨ B a = some o := by
  unfold jn at e
  split at e
  · rename_i q; cases e; exact .inl q
  · exact .inr e
theorem jn_none {A B : Hp} {a : Addr} (h1 : A a = none) (h2 : B a = none) : jn A B a = none := by unfold jn; rw [h1]; exact h2
theorem jn_sub {A B H : Hp} (ha : Same A H) (hb : Same B H) : Same (jn A B) H := fun a o e => by
  rcases jn_some e with q | q
  · exact ha _ _ q
  · exact hb _ _ q
theorem dj_jn {A B C : Hp} (ha : Dj A C) (hb : Dj B C) : Dj (jn A B) C := fun a => by
  cases q : C a with
  | none => exact .inr rfl
  | some o => exact .inl (jn_none (ha.ne' q) (hb.ne' q))
theorem dj_jn_r {A B C : Hp} (ha : Dj C A) (hb : Dj C B) : Dj C (jn A B) := (dj_jn ha.symm hb.symm).symm
theorem dj_of_jn_l {A B C : Hp} (h : Dj (jn A B) C) : Dj A C := h.sub jn_l (Same.refl _)
theorem dj_of_jn_r {A B C : Hp} (d : Dj A B) (h : Dj (jn A B) C) : Dj B C := h.sub (jn_r d) (Same.refl _)
theorem jn_em {B : Hp} : jn em B = B := rfl
theorem same_upd {H : Hp} {p : Addr} {o : HO} (h : H p = none) : Same H (upd H p o) := fun b x e => by rw [upd_ne (ne_of_none e h)]; exact e
theorem same_upd_l {A H : Hp} {p : Addr} {o : HO} (h : Same A H) (e : H p = some o) : Same (upd A p o) H := fun b x q => by
  by_cases hb : b = p
  · subst hb; rw [upd_same] at q; cases q; exact e
  · rw [upd_ne hb] at q; exact h _ _ q
theorem dj_upd_l {A B : Hp} {p : Addr} {o : HO} (h : Dj A B) (e : B p = none) : Dj (upd A p o) B := fun a => by
  by_cases hb : a = p
  · subst hb; exact .inr e
  · rw [upd_ne hb]; exact h a

/-! ### what represents a datum, all of it in F -/
mutual
inductive Rp (g : Gx) (F : Hp) : V → D → Prop
  | non : Rp g F .non .non
  | bl (b : Bool) : Rp g F (.bl b) (.bl b)
  | int (i : Int) : Rp g F (.int i) (.int i)
  | str (s : Str) : Rp g F (.str s) (.str s)
  | lst {a : Addr} {xs : List V} {ds : List D} : F a = some (.lst xs) → RpAll g F xs ds → Rp g F (.ref a) (.lst ds)
  | tup {a : Addr} {xs : List V} {ds : List D} : F a = some (.tup xs) → RpAll g F xs ds → Rp g F (.ref a) (.tup ds)
  | ktup {a : Addr} {xs : List V} {ds : List D} : SqT g.K em a xs → ds.length = 2 → RpAll g F xs ds → Rp g F (.ref a) (.tup ds)
  | dk {a : Addr} {kvs : List (Key × V)} {ds : List (Key × D)} : Rd F a (.dK kvs) → kvs.map (·.1) = ds.map (·.1) → RpAll g F (kvs.map (·.2)) (ds.map (·.2)) → Rp g F (.ref a) (.dk ds)
  | dt {a : Addr} {kvs : List (List Key × V)} {ds : List (List Key × D)} : Rd F a (.dT kvs) → kvs.map (·.1) = ds.map (·.1) → RpAll g F (kvs.map (·.2)) (ds.map (·.2)) → Rp g F (.ref a) (.dt ds)
  | st {a : Addr} {S : Int → Bool} {l : List Int} : F a = some (SetO g.w a S l.length) → (∀ k, k ∈ l ↔ S k = true) → l.Nodup → Rp g F (.ref a) (.st l)
  | scr {a : Addr} {l : List Int} : SqL g.K F a (l.map V.int) → Rp g F (.ref a) (.scr l)
  | fn {a : Addr} {x : Str} : g.mg x = some (.ref a) → Rp g F (.ref a) (.fn x)
  | ob {a C dx : Addr} {c : Str} {fs : List (Str × V)} {ds : List (Str × D)} : g.mg c = some (.ref C) → F a = some (.ins C dx fs) → F dx = some (.own a) → fs.map (·.1) = ds.map (·.1) → RpAll g F (fs.map (·.2)) (ds.map (·.2)) → Rp g F (.ref a) (.ob c ds)
inductive RpAll (g : Gx) (F : Hp) : List V → List D → Prop
  | nil : RpAll g F [] []
  | cons {v : V} {vs : List V} {d : D} {ds : List D} : Rp g F v d → RpAll g F vs ds → RpAll g F (v :: vs) (d :: ds)
end
theorem Same.seqT {K : PySem.W.Frag} {H H' : Hp} {a : Addr} {xs : List V} (e : Same H H') (h : SqT K H a xs) : SqT K H' a xs := by
  rcases h with (h | ⟨o, h⟩) | h
  · exact .inl (.inl (e _ _ h))
  · exact .inl (.inr ⟨o, e _ _ h⟩)
  · exact .inr h
theorem Same.rdm {H H' : Hp} {a : Addr} {u : HO} (e : Same H H') (h : Rd H a u) : Rd H' a u := by
  rcases h with h | ⟨o, h⟩
  · exact .inl (e _ _ h)
  · exact .inr ⟨o, e _ _ h⟩
section
variable {g : Gx} {F F' H M M' M1 M2 G : Hp}
mutual
theorem Rp.mono (s : Same F F') : ∀ {v d}, Rp g F v d → Rp g F' v d
  | _, _, .non => .non
  | _, _, .bl b => .bl b
  | _, _, .int i => .int i
  | _, _, .str i => .str i
  | _, _, .lst h r => .lst (s _ _ h) (RpAll.mono s r)
  | _, _, .tup h r => .tup (s _ _ h) (RpAll.mono s r)
  | _, _, .ktup h l r => .ktup h l (RpAll.mono s r)
  | _, _, .ob h1 h2 h3 h4 h5 => .ob h1 (s _ _ h2) (s _ _ h3) h4 (RpAll.mono s h5)
  | _, _, .dk h k r => .dk (Same.rdm s h) k (RpAll.mono s r)
  | _, _, .dt h k r => .dt (Same.rdm s h) k (RpAll.mono s r)
  | _, _, .st h k r => .st (s _ _ h) k r
  | _, _, .scr h => .scr (Same.seq s h)
  | _, _, .fn h => .fn h
theorem RpAll.mono (s : Same F F') : ∀ {v d}, RpAll g F v d → RpAll g F' v d
  | _, _, .nil => .nil
  | _, _, .cons h t => .cons (Rp.mono s h) (RpAll.mono s t)
end
theorem RpAll.length : ∀ {vs : List V} {ds : List D}, RpAll g F vs ds → vs.length = ds.length
  | _, _, .nil => rfl
  | _, _, .cons _ t => by rw [List.length_cons, List.length_cons, RpAll.length t]
theorem RpAll.get : ∀ {vs : List V} {ds : List D} {i : Nat} {d : D}, RpAll g F vs ds → ds[i]? = some d → ∃ v, vs[i]? = some v ∧ Rp g F v d
  | _, _, i, _, .nil, e => by simp at e
  | _, _, 0, _, .cons r _, e => by simp at e; subst e; exact ⟨_, rfl, r⟩
  | _, _, i + 1, d, .cons _ t, e => by
    obtain ⟨u, h1, h2⟩ := RpAll.get (i := i) (d := d) t (by simpa using e)
    exact ⟨u, by simpa using h1, h2⟩
theorem RpAll.append : ∀ {vs ws : List V} {ds es : List D}, RpAll g F vs ds → RpAll g F ws es → RpAll g F (vs ++ ws) (ds ++ es)
  | _, _, _, _, .nil, h => h
  | _, _, _, _, .cons r t, h => .cons r (RpAll.append t h)
theorem RpAll.take : ∀ {vs : List V} {ds : List D} (n : Nat), RpAll g F vs ds → RpAll g F (vs.take n) (ds.take n)
  | _, _, 0, _ => .nil
  | _, _, _ + 1, .nil => .nil
  | _, _, n + 1, .cons r t => .cons r (RpAll.take n t)
theorem RpAll.drop : ∀ {vs : List V} {ds : List D} (n : Nat), RpAll g F vs ds → RpAll g F (vs.drop n) (ds.drop n)
  | _, _, 0, r => r
  | _, _, _ + 1, .nil => .nil
  | _, _, n + 1, .cons _ t => RpAll.drop n t
theorem RpAll.set : ∀ {vs : List V} {ds : List D} (i : Nat) {v : V} {d : D}, RpAll g F vs ds → Rp g F v d → RpAll g F (vs.set i v) (ds.set i d)
  | _, _, _, _, _, .nil, _ => .nil
  | _, _, 0, _, _, .cons _ t, h => .cons h t
  | _, _, i + 1, _, _, .cons r t, h => .cons r (RpAll.set i t h)
theorem RpAll.erase : ∀ {vs : List V} {ds : List D} (i : Nat), RpAll g F vs ds → RpAll g F (vs.eraseIdx i) (ds.eraseIdx i)
  | _, _, _, .nil => .nil
  | _, _, 0, .cons _ t => t
  | _, _, i + 1, .cons r t => .cons r (RpAll.erase i t)
theorem RpAll.reverse : ∀ {vs : List V} {ds : List D}, RpAll g F vs ds → RpAll g F vs.reverse ds.reverse
  | _, _, .nil => .nil
  | _, _, .cons r t => by
    rw [List.reverse_cons, List.reverse_cons]
    exact (RpAll.reverse t).append (.cons r .nil)
theorem RpAll.ints : ∀ (ns : List Int), RpAll g F (ns.map V.int) (ns.map D.int)
  | [] => .nil
  | n :: ns => .cons (.int n) (RpAll.ints ns)
theorem RpAll.strs : ∀ (ns : List Str), RpAll g F (ns.map V.str) (ns.map D.str)
  | [] => .nil
  | n :: ns => .cons (.str n) (RpAll.strs ns)
theorem RpAll.ints_inv : ∀ {ns : List Int} {vs : List V}, RpAll g F vs (ns.map D.int) → vs = ns.map V.int
  | [], _, .nil => rfl
  | n :: ns, _, .cons h t => by cases h; rw [RpAll.ints_inv t]; rfl
theorem RpAll.strs_inv : ∀ {ns : List Str} {vs : List V}, RpAll g F vs (ns.map D.str) → vs = ns.map V.str
  | [], _, .nil => rfl
  | n :: ns, _, .cons h t => by cases h; rw [RpAll.strs_inv t]; rfl
theorem RpAll.bls_inv : ∀ {ns : List Bool} {vs : List V}, RpAll g F vs (ns.map D.bl) → vs = ns.map V.bl
  | [], _, .nil => rfl
  | n :: ns, _, .cons h t => by cases h; rw [RpAll.bls_inv t]; rfl
end

/-! ### owned trees: F what is frozen, M what is owned -/
mutual
inductive RO (g : Gx) (F : Hp) : Hp → V → T → Prop
  | z {M : Hp} {v : V} {d : D} : Rp g F v d → RO g F M v (.z d)
  | l {M M' : Hp} {a : Addr} {xs : List V} {ts : List T} : M a = some (.lst xs) → Same M' M → M' a = none → ROs g F M' xs ts → RO g F M (.ref a) (.l ts)
  | dk {M M' : Hp} {a : Addr} {kvs : List (Key × V)} {ts : List (Key × T)} : M a = some (.dK kvs) → Same M' M → M' a = none → kvs.map (·.1) = ts.map (·.1) → ROs g F M' (kvs.map (·.2)) (ts.map (·.2)) → RO g F M (.ref a) (.dk ts)
  | dt {M : Hp} {a : Addr} {kvs : List (List Key × V)} {ds : List (List Key × D)} : M a = some (.dT kvs) → kvs.map (·.1) = ds.map (·.1) → RpAll g F (kvs.map (·.2)) (ds.map (·.2)) → RO g F M (.ref a) (.dt ds)
  | ob {M M' : Hp} {a C dx : Addr} {c : Str} {fs : List (Str × V)} {ts : List (Str × T)} : g.mg c = some (.ref C) → M a = some (.ins C dx fs) → M dx = some (.own a) → Same M' M → M' a = none → M' dx = none →
      fs.map (·.1) = ts.map (·.1) → ROs g F M' (fs.map (·.2)) (ts.map (·.2)) → RO g F M (.ref a) (.ob c ts)
  | gone {M : Hp} {v : V} : RO g F M v .gone
inductive ROs (g : Gx) (F : Hp) : Hp → List V → List T → Prop
  | nil {M : Hp} : ROs g F M [] []
  | cons {M M1 M2 : Hp} {v : V} {vs : List V} {t : T} {ts : List T} : RO g F M1 v t → ROs g F M2 vs ts → Same M1 M → Same M2 M → Dj M1 M2 → ROs g F M (v :: vs) (t :: ts)
end
section
variable {g : Gx} {F F' H M M' M1 M2 G : Hp}
mutual
theorem RO.mono (s : Same F F') : ∀ {M v t}, RO g F M v t → RO g F' M v t
  | _, _, _, .z h => .z (h.mono s)
  | _, _, _, .l h1 h2 h3 h4 => .l h1 h2 h3 (ROs.mono s h4)
  | _, _, _, .dk h1 h2 h3 h4 h5 => .dk h1 h2 h3 h4 (ROs.mono s h5)
  | _, _, _, .dt h1 h2 h3 => .dt h1 h2 (h3.mono s)
  | _, _, _, .ob h1 h2 h3 h4 h5 h6 h7 h8 => .ob h1 h2 h3 h4 h5 h6 h7 (ROs.mono s h8)
  | _, _, _, .gone => .gone
theorem ROs.mono (s : Same F F') : ∀ {M v t}, ROs g F M v t → ROs g F' M v t
  | _, _, _, .nil => .nil
  | _, _, _, .cons h1 h2 h3 h4 h5 => .cons (RO.mono s h1) (ROs.mono s h2) h3 h4 h5
end
theorem RO.ext {v t} (h : RO g F M v t) (s : Same M M') : RO g F M' v t := by
  cases h with
  | z h => exact .z h
  | l h1 h2 h3 h4 => exact .l (s _ _ h1) (h2.trans s) h3 h4
  | dk h1 h2 h3 h4 h5 => exact .dk (s _ _ h1) (h2.trans s) h3 h4 h5
  | dt h1 h2 h3 => exact .dt (s _ _ h1) h2 h3
  | ob h1 h2 h3 h4 h5 h6 h7 h8 => exact .ob h1 (s _ _ h2) (s _ _ h3) (h4.trans s) h5 h6 h7 h8
  | gone => exact .gone
theorem ROs.ext {v t} (h : ROs g F M v t) (s : Same M M') : ROs g F M' v t := by
  cases h with
  | nil => exact .nil
  | cons h1 h2 h3 h4 h5 => exact .cons h1 h2 (h3.trans s) (h4.trans s) h5
theorem ROs.length : ∀ {M} {vs : List V} {ts : List T}, ROs g F M vs ts → vs.length = ts.length
  | _, _, _, .nil => rfl
  | _, _, _, .cons _ t _ _ _ => by rw [List.length_cons, List.length_cons, ROs.length t]
theorem ROs.of_all : ∀ {M} {vs : List V} {ds : List D}, RpAll g F vs ds → ROs g F M vs (ds.map T.z)
  | _, _, _, .nil => .nil
  | _, _, _, .cons h t => .cons (M1 := em) (M2 := em) (.z h) (ROs.of_all t) Same.empty Same.empty Dj.em_l
theorem ROs.all_of : ∀ {M} {vs : List V} {ds : List D}, ROs g F M vs (ds.map T.z) → RpAll g F vs ds
  | _, [], [], _ => .nil
  | _, _ :: _, _ :: _, .cons h t _ _ _ => by
    cases h with
    | z h => exact .cons h (ROs.all_of t)
/-- one place of an owned row in the hand: what stands there, the rest, and how it is put back -/
theorem ROs.pick : ∀ {M} {vs : List V} {ts : List T} {i : Nat} {t : T}, ROs g F M vs ts → ts[i]? = some t →
    ∃ v M1 M2, vs[i]? = some v ∧ RO g F M1 v t ∧ Same M1 M ∧ Same M2 M ∧ Dj M1 M2 ∧
      ∀ F' M1' v' t' M', Same F F' → RO g F' M1' v' t' → Dj M1' M2 → Same M1' M' → Same M2 M' → ROs g F' M' (vs.set i v') (ts.set i t')
  | _, _, _, i, _, .nil, e => by simp at e
  | M, _, _, 0, t, .cons (M1 := M1) (M2 := M2) (v := v) h1 h2 h3 h4 h5, e => by
    simp at e; subst e
    exact ⟨v, M1, M2, rfl, h1, h3, h4, h5, fun F' M1' v' t' M' s r d s1 s2 => .cons r (h2.mono s) s1 s2 d⟩
  | M, _, _, i + 1, t, .cons (M1 := A) (M2 := B) (v := v) h1 h2 h3 h4 h5, e => by
    obtain ⟨u, M1, M2, e1, r, s1, s2, d, back⟩ := ROs.pick (i := i) (t := t) h2 (by simpa using e)
    have dA2 : Dj A M2 := h5.sub (Same.refl _) s2
    refine ⟨u, M1, jn A M2, by simpa using e1, r, s1.trans h4, jn_sub h3 (s2.trans h4), dj_jn_r (h5.sub (Same.refl _) s1).symm d, fun F' M1' v' t' M' s r' d' sa sb => ?_⟩
    have dA1 : Dj A M1' := (d'.sub (Same.refl _) jn_l).symm
    have d12 : Dj M1' M2 := d'.sub (Same.refl _) (jn_r dA2)
    have q := back F' M1' v' t' (jn M1' M2) s r' d12 jn_l (jn_r d12)
    refine .cons (M1 := A) (M2 := jn M1' M2) (h1.mono s) q (jn_l.trans sb) (jn_sub sa ((jn_r dA2).trans sb)) (dj_jn_r dA1 dA2)
theorem ROs.append : ∀ {M M1 M2} {vs ws : List V} {ts us : List T}, ROs g F M1 vs ts → ROs g F M2 ws us → Dj M1 M2 → Same M1 M → Same M2 M → ROs g F M (vs ++ ws) (ts ++ us)
  | _, _, _, _, _, _, _, .nil, h, _, _, s => h.ext s
  | M, M1, M2, _, _, _, _, .cons (M1 := A) (M2 := B) h1 h2 h3 h4 h5, h, d, s1, s2 => by
    have dB : Dj B M2 := d.sub h4 (Same.refl _)
    have dA : Dj A M2 := d.sub h3 (Same.refl _)
    exact .cons h1 (ROs.append (M := jn B M2) h2 h dB jn_l (jn_r dB)) (h3.trans s1) (jn_sub (h4.trans s1) s2) (dj_jn_r h5 dA)

/-! ### freezing -/
mutual
def T.fz : T → Option D
  | .z d => some d
  | .l ts => match T.fzs ts with | some ds => some (.lst ds) | none => none
  | .dk kvs => match T.fzk kvs with | some ds => some (.dk ds) | none => none
  | .dt kvs => some (.dt kvs)
  | .ob c fs => match T.fzo fs with | some ds => some (.ob c ds) | none => none
  | .gone => none
def T.fzo : List (Str × T) → Option (List (Str × D))
  | [] => some []
  | (k, t) :: ts => match T.fz t, T.fzo ts with | some d, some ds => some ((k, d) :: ds) | _, _ => none
def T.fzs : List T → Option (List D)
  | [] => some []
  | t :: ts => match T.fz t, T.fzs ts with | some d, some ds => some (d :: ds) | _, _ => none
def T.fzk : List (Key × T) → Option (List (Key × D))
  | [] => some []
  | (k, t) :: ts => match T.fz t, T.fzk ts with | some d, some ds => some ((k, d) :: ds) | _, _ => none
end
theorem fzs_z : ∀ ds : List D, T.fzs (ds.map T.z) = some ds
  | [] => rfl
  | d :: ds => by rw [List.map_cons, T.fzs, fzs_z ds]; rfl
theorem fz_l (ds : List D) : T.fz (.l (ds.map T.z)) = some (.lst ds) := by rw [T.fz, fzs_z]
theorem fzk_of : ∀ {ts : List (Key × T)} {ds : List (Key × D)}, T.fzk ts = some ds → ts.map (·.1) = ds.map (·.1) ∧ T.fzs (ts.map (·.2)) = some (ds.map (·.2))
  | [], ds, e => by rw [T.fzk] at e; cases e; exact ⟨rfl, rfl⟩
  | (k, t) :: ts, ds, e => by
    rw [T.fzk] at e
    cases h1 : T.fz t with
    | none => rw [h1] at e; cases e
    | some d =>
      cases h2 : T.fzk ts with
      | none => rw [h1, h2] at e; cases e
      | some es =>
        rw [h1, h2] at e; cases e
        obtain ⟨q1, q2⟩ := fzk_of h2
        refine ⟨by rw [List.map_cons, List.map_cons, q1], ?_⟩
        rw [List.map_cons, T.fzs, h1, q2]; rfl
theorem fzo_of : ∀ {ts : List (Str × T)} {ds : List (Str × D)}, T.fzo ts = some ds → ts.map (·.1) = ds.map (·.1) ∧ T.fzs (ts.map (·.2)) = some (ds.map (·.2))
  | [], ds, e => by rw [T.fzo] at e; cases e; exact ⟨rfl, rfl⟩
  | (k, t) :: ts, ds, e => by
    rw [T.fzo] at e
    cases h1 : T.fz t with
    | none => rw [h1] at e; cases e
    | some d =>
      cases h2 : T.fzo ts with
      | none => rw [h1, h2] at e; cases e
      | some es =>
        rw [h1, h2] at e; cases e
        obtain ⟨q1, q2⟩ := fzo_of h2
        refine ⟨by rw [List.map_cons, List.map_cons, q1], ?_⟩
        rw [List.map_cons, T.fzs, h1, q2]; rfl
mutual
theorem RO.fz : ∀ {M v t d F'}, RO g F M v t → T.fz t = some d → Same F F' → Same M F' → Rp g F' v d
  | _, _, _, _, _, .z h, e, s, _ => by rw [T.fz] at e; cases e; exact h.mono s
  | _, _, .l ts, _, _, .l h1 h2 h3 h4, e, s, m => by
    rw [T.fz] at e
    cases q : T.fzs ts with
    | none => rw [q] at e; cases e
    | some ds =>
      rw [q] at e; cases e
      exact .lst (m _ _ h1) (ROs.fz h4 q s (h2.trans m))
  | _, _, .dk ts, _, _, .dk h1 h2 h3 h4 h5, e, s, m => by
    rw [T.fz] at e
    cases q : T.fzk ts with
    | none => rw [q] at e; cases e
    | some ds =>
      rw [q] at e; cases e
      obtain ⟨q1, q2⟩ := fzk_of q
      exact .dk (.inl (m _ _ h1)) (h4.trans q1) (ROs.fz h5 q2 s (h2.trans m))
  | _, _, _, _, _, .dt h1 h2 h3, e, s, m => by rw [T.fz] at e; cases e; exact .dt (.inl (m _ _ h1)) h2 (h3.mono s)
  | _, _, .ob c ts, _, _, .ob h1 h2 h3 h4 h5 h6 h7 h8, e, s, m => by
    rw [T.fz] at e
    cases q : T.fzo ts with
    | none => rw [q] at e; cases e
    | some ds =>
      rw [q] at e; cases e
      obtain ⟨q1, q2⟩ := fzo_of q
      exact .ob h1 (m _ _ h2) (m _ _ h3) (h7.trans q1) (ROs.fz h8 q2 s (h4.trans m))
  | _, _, _, _, _, .gone, e, _, _ => by rw [T.fz] at e; cases e
theorem ROs.fz : ∀ {M vs ts ds F'}, ROs g F M vs ts → T.fzs ts = some ds → Same F F' → Same M F' → RpAll g F' vs ds
  | _, _, _, _, _, .nil, e, _, _ => by rw [T.fzs] at e; cases e; exact .nil
  | _, _, t :: ts, _, _, .cons h1 h2 h3 h4 h5, e, s, m => by
    rw [T.fzs] at e
    cases q1 : T.fz t with
    | none => rw [q1] at e; cases e
    | some d =>
      cases q2 : T.fzs ts with
      | none => rw [q1, q2] at e; cases e
      | some es =>
        rw [q1, q2] at e; cases e
        exact .cons (RO.fz h1 q1 s (h3.trans m)) (ROs.fz h2 q2 s (h4.trans m))
end
end

/-! ### a def's state: the slots' owned trees, the frame G -/
/-- all tuples of H stand in F -/
def Ft (F H : Hp) : Prop := ∀ a xs, H a = some (.tup xs) → F a = some (.tup xs)
theorem Ft.mono {F F' H : Hp} (h : Ft F H) (s : Same F F') : Ft F' H := fun a xs e => s _ _ (h a xs e)
theorem Ft.cell {F H : Hp} {p : Addr} {o : HO} (h : Ft F H) (n : ∀ xs, o ≠ .tup xs) : Ft F (upd H p o) := fun a xs e => by
  by_cases q : a = p
  · subst q; rw [upd_same] at e; cases e; exact absurd rfl (n xs)
  · rw [upd_ne q] at e; exact h a xs e
theorem Ft.both {F H : Hp} {p : Addr} {o : HO} (h : Ft F H) : Ft (upd F p o) (upd H p o) := fun a xs e => by
  by_cases q : a = p
  · subst q; rw [upd_same] at e ⊢; exact e
  · rw [upd_ne q] at e ⊢; exact h a xs e
structure Hc (F M G H : Hp) : Prop where
  fh : Same F H
  mh : Same M H
  gh : Same G H
  fm : Dj F M
  fg : Dj F G
  mg : Dj M G
  ft : Ft F H
structure Sta (g : Gx) (F M G H : Hp) (σ : L2.St) (ts : List T) : Prop where
  hc : Hc F M G H
  vs : ∃ vs, ROs g F M vs ts ∧ ∀ (i : Nat) (v : V) (t : T), vs[i]? = some v → ts[i]? = some t → t = .gone ∨ σ[i]? = some (some v)
  len : σ.length = ts.length

end Ar
/-! ArB: operations on data, and that the operations on values do them. -/
namespace Ar
open PySem PySem.Spec PyProof.Rows L2

/-! ### data as the library's PyData -/
mutual
def D.py : D → Option PyData
  | .non => some .none
  | .bl b => some (.bool b)
  | .int i => some (.int i)
  | .str s => some (.str s)
  | .lst l => match D.pys l with | some x => some (.list x) | none => none
  | .tup l => match D.pys l with | some x => some (.tuple x) | none => none
  | .dk _ => none
  | .dt _ => none
  | .st _ => none
  | .scr _ => none
  | .fn _ => none
  | .ob _ _ => none
def D.pys : List D → Option (List PyData)
  | [] => some []
  | d :: ds => match D.py d, D.pys ds with | some x, some y => some (x :: y) | _, _ => none
end
section
variable {g : Gx} {F H : Hp}
mutual
theorem Rp.dp (s : Same F H) : ∀ {v d p}, Rp g F v d → D.py d = some p → Dp g.K H v p
  | _, _, _, .non, e => by rw [D.py] at e; cases e; exact .non
  | _, _, _, .bl b, e => by rw [D.py] at e; cases e; exact .bl b
  | _, _, _, .int i, e => by rw [D.py] at e; cases e; exact .int i
  | _, _, _, .str x, e => by rw [D.py] at e; cases e; exact .str x
  | _, .lst l, _, .lst h r, e => by
    rw [D.py] at e
    cases q : D.pys l with
    | none => rw [q] at e; cases e
    | some x => rw [q] at e; cases e; exact .lst (.of (s _ _ h)) (RpAll.dp s r q)
  | _, .tup l, _, .tup h r, e => by
    rw [D.py] at e
    cases q : D.pys l with
    | none => rw [q] at e; cases e
    | some x => rw [q] at e; cases e; exact .tup (.of (s _ _ h)) (RpAll.dp s r q)
  | _, .tup l, _, .ktup h _ r, e => by
    rw [D.py] at e
    cases q : D.pys l with
    | none => rw [q] at e; cases e
    | some x => rw [q] at e; cases e; exact .tup (Same.seqT Same.empty h) (RpAll.dp s r q)
  | _, _, _, .ob _ _ _ _ _, e => by rw [D.py] at e; cases e
  | _, _, _, .dk _ _ _, e => by rw [D.py] at e; cases e
  | _, _, _, .dt _ _ _, e => by rw [D.py] at e; cases e
  | _, _, _, .st _ _ _, e => by rw [D.py] at e; cases e
  | _, _, _, .scr _, e => by rw [D.py] at e; cases e
  | _, _, _, .fn _, e => by rw [D.py] at e; cases e
theorem RpAll.dp (s : Same F H) : ∀ {v d p}, RpAll g F v d → D.pys d = some p → DpAll g.K H v p
  | _, _, _, .nil, e => by rw [D.pys] at e; cases e; exact .nil
  | _, d :: ds, _, .cons h t, e => by
    rw [D.pys] at e
    cases q1 : D.py d with
    | none => rw [q1] at e; cases e
    | some x =>
      cases q2 : D.pys ds with
      | none => rw [q1, q2] at e; cases e
      | some y => rw [q1, q2] at e; cases e; exact .cons (Rp.dp s h q1) (RpAll.dp s t q2)
end
end

theorem Rp.tupS {g : Gx} {F : Hp} {v : V} {ds : List D} (h : Rp g F v (.tup ds)) : ∃ a xs, v = .ref a ∧ SqT g.K F a xs ∧ RpAll g F xs ds := by
  cases h with
  | tup h r => exact ⟨_, _, rfl, .of h, r⟩
  | ktup h _ r => exact ⟨_, _, rfl, Same.seqT Same.empty h, r⟩
/-! ### the view of a value: its root in H, what it holds in F -/
inductive Vh (g : Gx) (F H : Hp) : V → D → Prop
  | r {v : V} {d : D} : Rp g F v d → Vh g F H v d
  | l {a : Addr} {xs : List V} {ds : List D} : H a = some (.lst xs) → RpAll g F xs ds → Vh g F H (.ref a) (.lst ds)
  | dk {a : Addr} {kvs : List (Key × V)} {ds : List (Key × D)} : H a = some (.dK kvs) → kvs.map (·.1) = ds.map (·.1) → RpAll g F (kvs.map (·.2)) (ds.map (·.2)) → Vh g F H (.ref a) (.dk ds)
  | dt {a : Addr} {kvs : List (List Key × V)} {ds : List (List Key × D)} : H a = some (.dT kvs) → kvs.map (·.1) = ds.map (·.1) → RpAll g F (kvs.map (·.2)) (ds.map (·.2)) → Vh g F H (.ref a) (.dt ds)
section
variable {g : Gx} {F H : Hp} {v : V}
theorem Vh.non (h : Vh g F H v .non) : v = .non := by cases h with | r h => cases h; rfl
theorem Vh.bl {b} (h : Vh g F H v (.bl b)) : v = .bl b := by cases h with | r h => cases h; rfl
theorem Vh.int {i} (h : Vh g F H v (.int i)) : v = .int i := by cases h with | r h => cases h; rfl
theorem Vh.str {i} (h : Vh g F H v (.str i)) : v = .str i := by cases h with | r h => cases h; rfl
theorem Vh.lst {ds} (s : Same F H) (h : Vh g F H v (.lst ds)) : ∃ a xs, v = .ref a ∧ H a = some (.lst xs) ∧ RpAll g F xs ds := by
  cases h with
  | r h => cases h with | lst h r => exact ⟨_, _, rfl, s _ _ h, r⟩
  | l h r => exact ⟨_, _, rfl, h, r⟩
theorem Vh.tup {ds} (s : Same F H) (h : Vh g F H v (.tup ds)) : ∃ a xs, v = .ref a ∧ SqT g.K H a xs ∧ RpAll g F xs ds := by
  cases h with
  | r h => cases h with
    | tup h r => exact ⟨_, _, rfl, .of (s _ _ h), r⟩
    | ktup h _ r => exact ⟨_, _, rfl, Same.seqT Same.empty h, r⟩
theorem Vh.tupH {ds} (s : Same F H) (h : Vh g F H v (.tup ds)) (nl : ds.length ≠ 2) : ∃ a xs, v = .ref a ∧ H a = some (.tup xs) ∧ RpAll g F xs ds := by
  cases h with
  | r h => cases h with
    | tup h r => exact ⟨_, _, rfl, s _ _ h, r⟩
    | ktup _ l _ => exact absurd l nl
theorem Vh.tupR {ds} (h : Vh g F H v (.tup ds)) : Rp g F v (.tup ds) := by cases h with | r h => exact h
theorem Vh.scr {ds} (s : Same F H) (h : Vh g F H v (.scr ds)) : ∃ a, v = .ref a ∧ SqL g.K H a (ds.map V.int) := by
  cases h with
  | r h => cases h with | scr h => exact ⟨_, rfl, Same.seq s h⟩
theorem Vh.st {l} (s : Same F H) (h : Vh g F H v (.st l)) : ∃ a S, v = .ref a ∧ H a = some (SetO g.w a S l.length) ∧ (∀ k, k ∈ l ↔ S k = true) ∧ l.Nodup := by
  cases h with
  | r h => cases h with | st h r n => exact ⟨_, _, rfl, s _ _ h, r, n⟩
theorem Vh.dkO {ds} (s : Same F H) (h : Vh g F H v (.dk ds)) : ∃ a kvs, v = .ref a ∧ Rd H a (.dK kvs) ∧ kvs.map (·.1) = ds.map (·.1) ∧ RpAll g F (kvs.map (·.2)) (ds.map (·.2)) := by
  cases h with
  | r h => cases h with | dk h k r => exact ⟨_, _, rfl, Same.rdm s h, k, r⟩
  | dk h k r => exact ⟨_, _, rfl, .inl h, k, r⟩
theorem Vh.dtO {ds} (s : Same F H) (h : Vh g F H v (.dt ds)) : ∃ a kvs, v = .ref a ∧ Rd H a (.dT kvs) ∧ kvs.map (·.1) = ds.map (·.1) ∧ RpAll g F (kvs.map (·.2)) (ds.map (·.2)) := by
  cases h with
  | r h => cases h with | dt h k r => exact ⟨_, _, rfl, Same.rdm s h, k, r⟩
  | dt h k r => exact ⟨_, _, rfl, .inl h, k, r⟩
theorem Vh.dp {d p} (s : Same F H) (h : Vh g F H v d) (e : D.py d = some p) : Dp g.K H v p := by
  cases h with
  | r h => exact h.dp s e
  | l h r =>
    rename_i ds
    rw [D.py] at e
    cases q : D.pys ds with
    | none => rw [q] at e; cases e
    | some x => rw [q] at e; cases e; exact .lst (.of h) (r.dp s q)
  | dk _ _ _ => rw [D.py] at e; cases e
  | dt _ _ _ => rw [D.py] at e; cases e

/-- what an operation hands on: a thing that is there, a new one that is owned, a new one that is frozen -/
def Out (g : Gx) (F H : Hp) (t : T) (Q : VK) : Prop :=
  (∀ v, (∀ M, RO g F M v t) → Q v H) ∧
  (∀ p o, H p = none → (∀ M, M p = some o → RO g F M (.ref p) t) → Q (.ref p) (upd H p o)) ∧
  (∀ p o d, t = .z d → H p = none → Rp g (upd F p o) (.ref p) d → Q (.ref p) (upd H p o))
theorem Out.val {d Q} (h : Out g F H (.z d) Q) (r : Rp g F v d) : Q v H := h.1 v fun _ => .z r
theorem Out.new {ds : List D} {xs : List V} {Q : VK} (h : Out g F H (.l (ds.map T.z)) Q) (r : RpAll g F xs ds) : ∀ p, H p = none → Q (.ref p) (upd H p (.lst xs)) := fun p hp =>
  h.2.1 p _ hp fun M e => .l (M' := em) e Same.empty rfl (ROs.of_all r)
theorem Out.newT {ds : List D} {xs : List V} {Q : VK} (s : Same F H) (h : Out g F H (.z (.tup ds)) Q) (r : RpAll g F xs ds) : ∀ p, H p = none → Q (.ref p) (upd H p (.tup xs)) := fun p hp =>
  h.2.2 p _ _ rfl hp (.tup upd_same (r.mono (same_upd (s.free hp))))
end

def Op2 (g : Gx) (r : R2) (f : D → D → Option T) : Prop := ∀ F H x y dx dy t Q, Same F H → Vh g F H x dx → Vh g F H y dy → f dx dy = some t → Out g F H t Q → r x y H Q
def Op1 (g : Gx) (r : V → Hp → VK → Prop) (f : D → Option T) : Prop := ∀ F H x dx t Q, Same F H → Vh g F H x dx → f dx = some t → Out g F H t Q → r x H Q

/-! ### arithmetic -/
def bigN : Nat := 2 ^ 4000
def lim : Nat := 1000000
theorem lim_le {n : Nat} (h : n ≤ lim) : n ≤ sizeLine := Nat.le_trans h (by decide)
theorem lim_lt {n : Nat} (h : n ≤ lim) : n < sizeLine := Nat.lt_of_le_of_lt h (by decide)
theorem lim_lt' {n : Nat} (h : n < lim) : n < sizeLine := lim_lt (Nat.le_of_lt h)
def oAdd : D → D → Option T
  | .int i, .int j => some (.z (.int (i + j)))
  | .str a, .str b => if a.length + b.length ≤ lim then some (.z (.str (a ++ b))) else none
  | .lst a, .lst b => if a.length + b.length ≤ lim then some (.l ((a ++ b).map .z)) else none
  | .tup a, .tup b => if a.length + b.length ≤ lim then some (.z (.tup (a ++ b))) else none
  | _, _ => none
def oSub : D → D → Option T
  | .int i, .int j => some (.z (.int (i - j)))
  | _, _ => none
def small (i : Int) : Prop := -18446744073709551616 < i ∧ i < 18446744073709551616
instance (i : Int) : Decidable (small i) := by unfold small; infer_instance
def oMul : D → D → Option T
  | .int i, .int j => if small i ∨ small j ∨ (i.natAbs < bigN ∧ j.natAbs < bigN) then some (.z (.int (i * j))) else none
  | _, _ => none
def oDiv : D → D → Option T
  | .int i, .int j => if 0 < j ∧ j.natAbs < bigN then some (.z (.int (i / j))) else none
  | _, _ => none
def oMod : D → D → Option T
  | .int i, .int j => if 0 < j then some (.z (.int (i % j))) else none
  | _, _ => none
def oPow : D → D → Option T
  | .int i, .int j => if 0 ≤ j ∧ j ≤ 1000000 ∧ small i then some (.z (.int (i ^ j.toNat))) else none
  | _, _ => none
def rAddAll (K : PySem.W.Frag) : R2 := fun x y H Q => (((rI0 fun i j => .int (i + j)) x y H Q ∨ (∃ i j, x = .str i ∧ y = .str j ∧ i.length + j.length ≤ sizeLine ∧ Q (.str (i ++ j)) H)) ∨ rCat x y H Q) ∨ rCatA K x y H Q
theorem op_addAll {X : Cx} : OpR X (binaryOp .Add) (rAddAll X.K) := ((op_add.or op_add_str).or op_cat).or op_catA
theorem opAdd {g : Gx} : Op2 g (rAddAll g.K) oAdd := by
  intro F H x y dx dy t Q s hx hy e q
  unfold oAdd at e
  split at e
  · cases e; cases hx.int; cases hy.int
    exact .inl (.inl (.inl ⟨_, _, rfl, rfl, q.val (.int _)⟩))
  · split at e
    · rename_i h; cases e; cases hx.str; cases hy.str
      exact .inl (.inl (.inr ⟨_, _, rfl, rfl, lim_le h, q.val (.str _)⟩))
    · cases e
  · split at e
    · rename_i h; cases e
      obtain ⟨a, xs, rfl, ha, ra⟩ := hx.lst s
      obtain ⟨b, ys, rfl, hb, rb⟩ := hy.lst s
      refine .inl (.inr ⟨a, b, xs, ys, rfl, rfl, ha, hb, lim_le ?_, q.new (ra.append rb)⟩)
      rw [ra.length, rb.length]; exact h
    · cases e
  · split at e
    · rename_i h; cases e
      have vx := hx.tupR
      have vy := hy.tupR
      obtain ⟨a, xs, rfl, ha, ra⟩ := hx.tup s
      obtain ⟨b, ys, rfl, hb, rb⟩ := hy.tup s
      refine .inr ⟨a, b, xs, ys, rfl, rfl, ha, hb, lim_le ?_, fun z => ?_, fun _ z => ?_, fun _ _ => q.newT s (ra.append rb)⟩
      · rw [ra.length, rb.length]; exact h
      · subst z; cases ra; exact q.val vy
      · subst z; cases rb; rw [List.append_nil] at q; exact q.val vx
    · cases e
  · cases e
theorem opSub {g : Gx} : Op2 g (rI0 fun i j => .int (i - j)) oSub := by
  intro F H x y dx dy t Q s hx hy e q
  unfold oSub at e
  split at e
  · cases e; cases hx.int; cases hy.int; exact ⟨_, _, rfl, rfl, q.val (.int _)⟩
  · cases e
theorem small_mul {i : Int} (h : small i) : -(2 ^ 64) < i ∧ i < 2 ^ 64 := by unfold small at h; omega
theorem big_log {n : Nat} (h : n < bigN) : n.log2 < 4000 := PySem.Flt.log2_lt_of (by decide) h
def rMulAll : R2 := fun x y H Q => (rI CMul fun i j => .int (i * j)) x y H Q ∨ (rI CMulW fun i j => .int (i * j)) x y H Q
theorem op_mulAll {X : Cx} : OpR X (binaryOp .Mult) rMulAll := op_mul.or op_mulW
theorem opMul {g : Gx} : Op2 g rMulAll oMul := by
  intro F H x y dx dy t Q s hx hy e q
  unfold oMul at e
  split at e
  · split at e
    · rename_i h; cases e; cases hx.int; cases hy.int
      rcases h with h | h | ⟨h1, h2⟩
      · exact .inl ⟨_, _, rfl, rfl, .inl (small_mul h), q.val (.int _)⟩
      · exact .inl ⟨_, _, rfl, rfl, .inr (small_mul h), q.val (.int _)⟩
      · refine .inr ⟨_, _, rfl, rfl, ?_, q.val (.int _)⟩
        have a1 := big_log h1
        have a2 := big_log h2
        unfold CMulW; omega
    · cases e
  · cases e
theorem opDiv {g : Gx} : Op2 g (rI CDivW fun i j => .int (i / j)) oDiv := by
  intro F H x y dx dy t Q s hx hy e q
  unfold oDiv at e
  split at e
  · split at e
    · rename_i h; cases e; cases hx.int; cases hy.int
      exact ⟨_, _, rfl, rfl, ⟨h.1, Nat.lt_trans (big_log h.2) (by decide)⟩, q.val (.int _)⟩
    · cases e
  · cases e
theorem opMod {g : Gx} : Op2 g (rI (fun _ j => 0 < j) fun i j => .int (i % j)) oMod := by
  intro F H x y dx dy t Q s hx hy e q
  unfold oMod at e
  split at e
  · split at e
    · rename_i h; cases e; cases hx.int; cases hy.int
      exact ⟨_, _, rfl, rfl, h, q.val (.int _)⟩
    · cases e
  · cases e
theorem opPow {g : Gx} : Op2 g (rI CPow fun i j => .int (i ^ j.toNat)) oPow := by
  intro F H x y dx dy t Q s hx hy e q
  unfold oPow at e
  split at e
  · split at e
    · rename_i h; cases e; cases hx.int; cases hy.int
      refine ⟨_, _, rfl, rfl, ⟨h.1, h.2.1, ?_⟩, q.val (.int _)⟩
      have := small_mul h.2.2; omega
    · cases e
  · cases e

/-! ### comparisons -/
def okq (d : D) : Bool := match D.py d with | some p => SeqAt.shaped p | none => false
def pyD (d : D) : PyData := match D.py d with | some p => p | none => .none
theorem okq_py {d : D} (h : okq d = true) : D.py d = some (pyD d) ∧ SeqAt.shaped (pyD d) = true := by
  unfold okq at h; unfold pyD
  cases q : D.py d with
  | none => rw [q] at h; cases h
  | some p => rw [q] at h; exact ⟨rfl, h⟩
def eqd (a b : D) : Bool := PyData.eqv (pyD a) (pyD b)
def oEq (a b : D) : Option T := if okq a = true ∧ okq b = true then some (.z (.bl (eqd a b))) else none
def oNe (a b : D) : Option T := if okq a = true ∧ okq b = true then some (.z (.bl (!eqd a b))) else none
theorem opEq {g : Gx} : Op2 g (rEqD g.K) oEq := by
  intro F H x y dx dy t Q s hx hy e q
  unfold oEq at e
  split at e
  · rename_i h; cases e
    obtain ⟨e1, s1⟩ := okq_py h.1
    obtain ⟨e2, s2⟩ := okq_py h.2
    exact ⟨_, _, hx.dp s e1, hy.dp s e2, s1, s2, q.val (.bl _)⟩
  · cases e
theorem opNe {g : Gx} : Op2 g (rNeD g.K) oNe := by
  intro F H x y dx dy t Q s hx hy e q
  unfold oNe at e
  split at e
  · rename_i h; cases e
    obtain ⟨e1, s1⟩ := okq_py h.1
    obtain ⟨e2, s2⟩ := okq_py h.2
    exact ⟨_, _, hx.dp s e1, hy.dp s e2, s1, s2, q.val (.bl _)⟩
  · cases e
def toI : D → Option Int
  | .int i => some i
  | _ => none
theorem toI_eq {d : D} {i : Int} (e : toI d = some i) : d = .int i := by cases d <;> first | (cases e; rfl) | cases e
def intsD : List D → Option (List Int)
  | [] => some []
  | d :: r => match toI d, intsD r with | some i, some l => some (i :: l) | _, _ => none
theorem ints_eq : ∀ {ds : List D} {ns : List Int}, intsD ds = some ns → ds = ns.map D.int
  | [], ns, e => by cases e; rfl
  | d :: r, ns, e => by
    rw [intsD] at e
    cases q1 : toI d with
    | none => rw [q1] at e; cases e
    | some k =>
      cases q2 : intsD r with
      | none => rw [q1, q2] at e; cases e
      | some l => rw [q1, q2] at e; cases e; rw [toI_eq q1, ints_eq q2]; rfl
theorem ints_of : ∀ ns : List Int, intsD (ns.map D.int) = some ns
  | [] => rfl
  | n :: r => by rw [List.map_cons, intsD, ints_of r]; rfl
def ltPy (a b : List D) : Option T := match D.pys a, D.pys b with
  | some p, some q => if PySem.W.alikeAll p q = true ∧ (PyData.tuple p).depth ≤ 64 then some (.z (.bl (PySem.W.dataLt (.tuple p) (.tuple q)))) else none
  | _, _ => none
def oLt : D → D → Option T
  | .int i, .int j => some (.z (.bl (decide (i < j))))
  | .tup a, .tup b => match intsD a, intsD b with | some ns, some ms => some (.z (.bl (HT.lexLt ns ms))) | _, _ => ltPy a b
  | _, _ => none
def oLe : D → D → Option T
  | .int i, .int j => some (.z (.bl (decide (i ≤ j))))
  | _, _ => none
def oGt : D → D → Option T
  | .int i, .int j => some (.z (.bl (decide (j < i))))
  | _, _ => none
def oGe : D → D → Option T
  | .int i, .int j => some (.z (.bl (decide (j ≤ i))))
  | _, _ => none
def rLtDD (K : PySem.W.Frag) : R2 := fun x y H Q => ∃ d e, Dp K H x d ∧ Dp K H y e ∧ PySem.W.alike d e = true ∧ d ≠ .none ∧ d.depth ≤ 64 ∧ Q (.bl (PySem.W.dataLt d e)) H
theorem op_ltDD {X : Cx} (hu : X.A.units + 64 < cLine) : OpR X (compareOp .Lt) (rLtDD X.K) := by
  intro pins s σ H x y v u Q I rx ry h
  obtain ⟨d, e, hd, he, al, nn, dp, q⟩ := h
  obtain ⟨as, r1⟩ := Dp.reads I d x v hd rx
  obtain ⟨bs, r2⟩ := Dp.reads I e y u he ry
  exact PySem.W.lt_data r1 r2 al nn (by omega) ⟨.bl _, H, I, rfl, q⟩
def rLtAll (K : PySem.W.Frag) : R2 := fun x y H Q => ((rI0 fun i j => .bl (decide (i < j))) x y H Q ∨ rLtT K x y H Q) ∨ rLtDD K x y H Q
theorem op_ltAll {X : Cx} (hu : X.A.units + 64 < cLine) : OpR X (compareOp .Lt) (rLtAll X.K) := (op_lt.or (op_ltT (by omega))).or (op_ltDD hu)
theorem opLt {g : Gx} : Op2 g (rLtAll g.K) oLt := by
  intro F H x y dx dy t Q s hx hy e q
  unfold oLt at e
  split at e
  · cases e; cases hx.int; cases hy.int; exact .inl (.inl ⟨_, _, rfl, rfl, q.val (.bl _)⟩)
  · split at e
    · rename_i a b ns ms e1 e2
      cases e
      obtain ⟨a, xs, rfl, ha, ra⟩ := hx.tup s
      obtain ⟨b, ys, rfl, hb, rb⟩ := hy.tup s
      rw [ints_eq e1] at ra; rw [ints_eq e2] at rb
      rw [ra.ints_inv] at ha; rw [rb.ints_inv] at hb
      exact .inl (.inr ⟨a, b, ns, ms, rfl, rfl, ha, hb, q.val (.bl _)⟩)
    · unfold ltPy at e
      split at e
      · rename_i p p' e1 e2
        split at e
        · rename_i h
          cases e
          have dd : ∀ l r, D.pys l = some r → D.py (.tup l) = some (.tuple r) := fun l r e => by rw [D.py, e]
          exact .inr ⟨_, _, hx.dp s (dd _ _ e1), hy.dp s (dd _ _ e2), by simp only [PySem.W.alike]; exact h.1, fun z => (by cases z), h.2, q.val (.bl _)⟩
        · cases e
      · cases e
  · cases e
theorem opLe {g : Gx} : Op2 g (rI0 fun i j => .bl (decide (i ≤ j))) oLe := by
  intro F H x y dx dy t Q s hx hy e q
  unfold oLe at e
  split at e
  · cases e; cases hx.int; cases hy.int; exact ⟨_, _, rfl, rfl, q.val (.bl _)⟩
  · cases e
theorem opGt {g : Gx} : Op2 g (rI0 fun i j => .bl (decide (j < i))) oGt := by
  intro F H x y dx dy t Q s hx hy e q
  unfold oGt at e
  split at e
  · cases e; cases hx.int; cases hy.int; exact ⟨_, _, rfl, rfl, q.val (.bl _)⟩
  · cases e
theorem opGe {g : Gx} : Op2 g (rI0 fun i j => .bl (decide (j ≤ i))) oGe := by
  intro F H x y dx dy t Q s hx hy e q
  unfold oGe at e
  split at e
  · cases e; cases hx.int; cases hy.int; exact ⟨_, _, rfl, rfl, q.val (.bl _)⟩
  · cases e
def isNonD : D → Bool
  | .non => true
  | _ => false
theorem Vh.isNon {g : Gx} {F H : Hp} {v : V} {d : D} (h : Vh g F H v d) : decide (v = .non) = isNonD d := by
  cases h with
  | r h => cases h <;> rfl
  | l _ _ => rfl
  | dk _ _ _ => rfl
  | dt _ _ _ => rfl

/-! ### in -/
def D.key : D → Option Key
  | .int i => some (.inl i)
  | .str s => some (.inr s)
  | _ => none
def D.keys : List D → Option (List Key)
  | [] => some []
  | d :: r => match D.key d, D.keys r with | some k, some l => some (k :: l) | _, _ => none
def kD : Key → D
  | .inl i => .int i
  | .inr s => .str s
theorem key_eq {d : D} {k : Key} (e : D.key d = some k) : d = kD k := by
  cases d <;> first | (cases e; rfl) | cases e
theorem keys_eq : ∀ {ds : List D} {ks : List Key}, D.keys ds = some ks → ds = ks.map kD
  | [], ks, e => by cases e; rfl
  | d :: r, ks, e => by
    rw [D.keys] at e
    cases q1 : D.key d with
    | none => rw [q1] at e; cases e
    | some k =>
      cases q2 : D.keys r with
      | none => rw [q1, q2] at e; cases e
      | some l => rw [q1, q2] at e; cases e; rw [key_eq q1, keys_eq q2]; rfl
section
variable {g : Gx} {F H : Hp}
theorem rp_key {v : V} {k : Key} (h : Rp g F v (kD k)) : v = kV k := by cases k <;> (cases h; rfl)
theorem rp_keys : ∀ {ks : List Key} {vs : List V}, RpAll g F vs (ks.map kD) → vs = ks.map kV
  | [], _, .nil => rfl
  | k :: ks, _, .cons h t => by rw [rp_key h, rp_keys t]; rfl
theorem Vh.key {v : V} {d : D} {k : Key} (h : Vh g F H v d) (e : D.key d = some k) : v = kV k := by
  rw [key_eq e] at h
  cases k with
  | inl i => exact h.int
  | inr s => exact h.str
end
def flatD : D → Bool
  | .non => true
  | .bl _ => true
  | .int _ => true
  | .str _ => true
  | _ => false
def eqf : D → D → Bool
  | .non, .non => true
  | .bl a, .bl b => a == b
  | .bl a, .int b => (if a then 1 else 0) == b
  | .int a, .bl b => a == (if b then 1 else 0)
  | .int a, .int b => a == b
  | .str a, .str b => a == b
  | _, _ => false
section
variable {g : Gx} {F H : Hp}
theorem rp_flat {v : V} {d : D} (h : Rp g F v d) (e : flatD d = true) : flatV v = true := by cases h <;> first | rfl | cases e
theorem rp_flats : ∀ {vs : List V} {ds : List D}, RpAll g F vs ds → ds.all flatD = true → vs.all flatV = true
  | _, _, .nil, _ => rfl
  | _, _, .cons h t, e => by
    rw [List.all_cons, Bool.and_eq_true] at e
    rw [List.all_cons, rp_flat h e.1, rp_flats t e.2]; rfl
theorem rp_eqf {v u : V} {d e : D} (h : Rp g F v d) (k : Rp g F u e) (f1 : flatD d = true) (f2 : flatD e = true) : eqV v u = eqf d e := by
  cases h <;> first | (cases f1; done) | (cases k <;> first | (cases f2; done) | rfl)
theorem rp_in {u : V} {e : D} (k : Rp g F u e) (f2 : flatD e = true) : ∀ {vs : List V} {ds : List D}, RpAll g F vs ds → ds.all flatD = true → inV u vs = ds.any fun y => eqf y e
  | _, _, .nil, _ => rfl
  | _, _, .cons h t, f => by
    rw [List.all_cons, Bool.and_eq_true] at f
    have ih := rp_in k f2 t f.2
    unfold inV at ih ⊢
    rw [List.any_cons, List.any_cons, rp_eqf h k f.1 f2, ih]
theorem Vh.flat {v : V} {d : D} (h : Vh g F H v d) (e : flatD d = true) : Rp g F v d := by
  cases h with
  | r h => exact h
  | l _ _ => cases e
  | dk _ _ _ => cases e
  | dt _ _ _ => cases e
end
def hasK {κ : Type} [DecidableEq κ] (kvs : List (κ × D)) (k : κ) : Bool := kvs.any fun p => decide (p.1 = k)
def getK {κ : Type} [DecidableEq κ] (kvs : List (κ × D)) (k : κ) : Option D := (kvs.find? fun p => decide (p.1 = k)).map (·.2)
def D.tkey : D → Option (List Key)
  | .tup l => if l.length = 2 then none else D.keys l
  | _ => none
def inD (x y : D) : Option Bool :=
  match y with
  | .lst l => if flatD x = true ∧ l.all flatD = true then some (l.any fun z => eqf z x) else if okq x = true ∧ okq (.lst l) = true then some (l.any fun z => eqd z x) else none
  | .tup l => if flatD x = true ∧ l.all flatD = true then some (l.any fun z => eqf z x) else none
  | .dk kvs => match D.key x with | some k => some (hasK kvs k) | none => none
  | .dt kvs => match D.tkey x with | some k => some (hasK kvs k) | none => none
  | .str s => match x with
    | .str c => match c.cps.toList with | [n] => some (decide (n ∈ s.cps.toList)) | _ => none
    | _ => none
  | _ => none
def oIn (x y : D) : Option T := match inD x y with | some b => some (.z (.bl b)) | none => none
def oNotIn (x y : D) : Option T := match inD x y with | some b => some (.z (.bl (!b))) | none => none
end Ar
/-! ArS: set(xs) of a list of ints, with its order kept (sorted behind it). -/
namespace Ar
open PySem PySem.Spec PyProof.Rows L2
abbrev sObj (w : World) : Obj := ⟨.type "set", none, .set #[] 0 (.fresh 0 0 (!w.params.followText "set-order")), #[]⟩
abbrev withSet (w : World) (h : Heap) : Heap := h.push (sObj w)
section
variable {P : Program} {w : World} {A : Around} {E : Value → Shared → Prop} {s : Shared}
theorem withSet_at (h : Heap) : (withSet w h).get? h.objs.size = some (sObj w) := Heap.get?_push_size h rfl
theorem withSet_sz (h : Heap) : (withSet w h).objs.size = h.objs.size + 1 := Heap.size_push h _
theorem item_int {its : Array Value} {ks : List Int} (r : PyProof.Rows.IntsAre its.toList ks) (z : its.size = ks.length) (i : Nat) (v : Value) (e : its[i]? = some v) : ∃ k t, ks[i]? = some k ∧ v = .int k t := by
  have lt : i < ks.length := z ▸ (Array.getElem?_eq_some_iff.mp e).1
  obtain ⟨t, rfl⟩ := PyProof.Rows.IntsAre.int_at r i v (by simpa using e)
  exact ⟨ks[i], t, List.getElem?_eq_getElem lt, by simp [List.getD_eq_getElem?_getD, List.getElem?_eq_getElem lt]⟩
/-- what set's __init__ does behind a list's iterator -/
theorem set_fill {p : Addr} {its : Array Value} (ks : List Int) (hh : A.in1.handled = none) (hl : s.heap.IsList p its) (r : PyProof.Rows.IntsAre its.toList ks) (hb : ks.length + 1 < scanBound)
    {R : Result → Shared → Prop}
    (h : ∀ (s' : Shared) (c : Nat), s'.gens = s.gens → s'.drawn = s.drawn → s'.os = s.os → SetR w s'.heap s.heap.objs.size (fun j => decide (j ∈ ks)) c → c ≤ ks.length →
      (∀ b o, s.heap.get? b = some o → s'.heap.get? b = some o) → R (.ok (.ret .none)) s') :
    codeAny (model P w) A (.builtin "set.update.loop" ⟨[.ref s.heap.objs.size, .ref (s.heap.objs.size + 1)], []⟩) R { s with heap := (withSet w s.heap).push ⟨.type "list_iterator", none, .fields #[.ref p, .int 0 0], #[]⟩ } := by
  have z : its.size = ks.length := by simpa using PyProof.Rows.IntsAre.length r
  have pl : p < s.heap.objs.size := by obtain ⟨_, e, _⟩ := hl; exact Heap.lt_size e
  have n1 : p ≠ s.heap.objs.size + 1 := Nat.ne_of_lt (Nat.lt_succ_of_lt pl)
  have free : s.heap.objs.size ∉ [s.heap.objs.size + 1, p] := by simp; exact Nat.ne_of_gt pl
  have at0 : ((withSet w s.heap).push ⟨.type "list_iterator", none, .fields #[.ref p, .int 0 0], #[]⟩).get? s.heap.objs.size = some (sObj w) := Heap.get?_push_of_some _ (withSet_at _)
  have it0 : ((withSet w s.heap).push ⟨.type "list_iterator", none, .fields #[.ref p, .int 0 0], #[]⟩).get? (s.heap.objs.size + 1) = some ⟨.type "list_iterator", none, .fields #[.ref p, .int 0 0], #[]⟩ := by
    have := Heap.get?_push_size (withSet w s.heap) (o := ⟨.type "list_iterator", none, .fields #[.ref p, .int 0 0], #[]⟩) rfl
    rwa [withSet_sz] at this
  refine set_update_ints (Walks.list hh _ p n1 its).toS s.heap.objs.size free ks z hb (item_int r z) (its.size - 0) 0 _ rfl (Nat.zero_le _) ⟨⟨_, it0, rfl, rfl⟩, (hl.push _).push _⟩ ⟨0, Nat.le_refl 0, setR_new_at at0⟩ ?_
  intro s' c m hc S
  refine h s' c m.gens m.drawn m.os S (z ▸ hc) fun b o e => ?_
  have lt : b < s.heap.objs.size := Heap.lt_size e
  refine m.heap b o ?_ (Heap.get?_push_of_some _ (Heap.get?_push_of_some _ e))
  simp
  exact ⟨Nat.ne_of_lt lt, Nat.ne_of_lt (Nat.lt_succ_of_lt lt)⟩
/-- set(xs), xs a list of ints -/
theorem set_of_list {p : Addr} {its : Array Value} (ks : List Int) {Q : Value → Shared → Prop} (hh : A.handled = none) (hl : s.heap.IsList p its) (r : PyProof.Rows.IntsAre its.toList ks) (hb : ks.length + 1 < scanBound)
    (h : ∀ (s' : Shared) (c : Nat), s'.gens = s.gens → s'.drawn = s.drawn → s'.os = s.os → SetR w s'.heap s.heap.objs.size (fun j => decide (j ∈ ks)) c → c ≤ ks.length →
      (∀ b o, s.heap.get? b = some o → s'.heap.get? b = some o) → Q (.ref s.heap.objs.size) s') :
    wpAny (model P w) A (call (.type "set") [.ref p]) Q E s := by
  have calledSet := PySem.F.called_set
  obtain ⟨cc, tl, mroSet⟩ := calledSet.mro
  have made := calledSet.made
  have sub := calledSet.sub
  have f1 := calledSet.notType
  have f2 := calledSet.canCreate
  have f3 := PySem.F.typeCall_set_1 (.ref p)
  refine wpAny_call (codeAny_of_tree (wpAny_pure ⟨Code.quiet_builtin _ (by decide +kernel), codeAny_builtin PySem.F.entry_type_call ?_⟩))
  rw [Around.under_plain (weight_type_call_type "set" [Value.ref p] ([] : List (Str × Value))) rfl]
  repeat (any_goals (first | assumption | wp_step))
  refine codeAny_mono (code_set_led1 (.ref p) (E := E) (Q₁ := fun v t => v = .ref s.heap.objs.size ∧ t = { s with heap := withSet w s.heap }) ⟨rfl, rfl⟩) fun res s1 hr => ?_
  rcases res with e | fl
  · exact hr
  · rcases fl with _ | _ | _ | v
    · exact hr.elim
    · exact hr.elim
    · exact hr.elim
    · obtain ⟨rfl, rfl⟩ := hr
      have there : (withSet w s.heap).get? s.heap.objs.size = some (sObj w) := withSet_at _
      have ty : Shared.TypeIs { s with heap := withSet w s.heap } (.ref s.heap.objs.size) "set" := ⟨_, there, rfl⟩
      have g1 := calledSet.init.lookup
      have g2 := calledSet.init.bind (.ref s.heap.objs.size)
      repeat (any_goals (first | assumption | wp_step))
      refine codeAny_mono (codeAny_call_builtin (R := wants (fun v s2 => v = .none ∧ ∃ c, s2.gens = s.gens ∧ s2.drawn = s.drawn ∧ s2.os = s.os ∧ SetR w s2.heap s.heap.objs.size (fun j => decide (j ∈ ks)) c ∧ c ≤ ks.length ∧
        ∀ b o, s.heap.get? b = some o → s2.heap.get? b = some o) E) calledSet.init.plain PySem.F.entry_set_init (PySem.check_set_init_1 ty ?_)) fun res2 s2 hr2 => ?_
      · have ll : (withSet w s.heap).IsList p its := hl.push _
        obtain ⟨ob, ho, hcl, nn, hd⟩ := ll
        obtain ⟨c0, d0, a0, sl0⟩ := ob
        simp only at hcl hd
        subst hcl hd
        have l2 : (withSet w s.heap).IsList p its := hl.push _
        have hsls := PySem.F.sub_list_set
        have hslf := PySem.F.sub_list_frozenset
        have hne : (Value.type "list" == Value.type "dict") = false := by decide
        unfold Builtin.«set.__init__» noKeywords Builtin.Frozenset.updateFrom
        generalize hPI : pyIter = PI
        wp_walk
        subst hPI
        refine wpAny_pyIter_list l2 (wpAny_bind (wpAny_runValue ?_))
        show codeAny _ _ (.builtin "set.update.loop" ⟨[.ref s.heap.objs.size, .ref (withSet w s.heap).objs.size], []⟩) _ _
        rw [withSet_sz]
        refine set_fill (A := A.in1.in1) ks (by simp [hh]) hl r hb fun s2 c q1 q2 q3 q4 q5 q6 => ?_
        exact wpAny_pure (wpAny_pure ⟨rfl, c, q1, q2, q3, q4, q5, q6⟩)
      · rcases res2 with e | fl2
        · exact hr2
        · rcases fl2 with _ | _ | _ | v2
          · exact hr2.elim
          · exact hr2.elim
          · exact hr2.elim
          · obtain ⟨rfl, c, q1, q2, q3, q4, q5, q6⟩ := hr2
            repeat (any_goals (first | assumption | wp_step))
            exact h s2 c q1 q2 q3 q4 q5 q6
end
end Ar
/-! ArC: further operations on data: in, subscripts, the built-in functions. -/
namespace Ar
open PySem PySem.Spec PyProof.Rows L2

def Call1 (g : Gx) (r : List V → Hp → VK → Prop) (f : D → Option T) : Prop := ∀ F H x dx t Q, Same F H → Vh g F H x dx → f dx = some t → Out g F H t Q → r [x] H Q
def Call2 (g : Gx) (r : List V → Hp → VK → Prop) (f : D → D → Option T) : Prop := ∀ F H x y dx dy t Q, Same F H → Vh g F H x dx → Vh g F H y dy → f dx dy = some t → Out g F H t Q → r [x, y] H Q

theorem dget_k {H : Hp} {a : Addr} {kvs : List (Key × V)} {k : Key} (e : Rd H a (.dK kvs)) : DGet H a (kV k) (valV kvs k) := .inl ⟨kvs, k, e, rfl, rfl⟩
theorem dget_t {H : Hp} {a b : Addr} {kvs : List (List Key × V)} {k : List Key} (e : Rd H a (.dT kvs)) (eb : H b = some (.tup (k.map kV))) : DGet H a (.ref b) (valV kvs k) := .inr ⟨kvs, k, b, e, rfl, eb, rfl⟩
/-! ### in -/
def rDIn (neg : Bool) : R2 := fun x y H Q => ∃ a o, y = .ref a ∧ DGet H a x o ∧ Q (.bl (if neg then !o.isSome else o.isSome)) H
section
variable {X : Cx}
theorem op_dIn (hu : X.A.units + 1 < cLine) : OpR X (compareOp .In) (rDIn false) := by
  intro pins s σ H x y v u Q I rx ry h
  obtain ⟨a, o, rfl, d, q⟩ := h
  cases ry
  exact d_in hu I d rx fun s2 I2 => ⟨.bl o.isSome, H, I2, rfl, q⟩
theorem op_dNotIn (hu : X.A.units + 1 < cLine) : OpR X (compareOp .NotIn) (rDIn true) := by
  intro pins s σ H x y v u Q I rx ry h
  obtain ⟨a, o, rfl, d, q⟩ := h
  cases ry
  exact d_notIn hu I d rx fun s2 I2 => ⟨.bl (!o.isSome), H, I2, rfl, q⟩
def rSgn (neg : Bool) : R2 := fun x y H Q => ∃ (c : Nat) (z : Str), x = .str ⟨#[c]⟩ ∧ y = .str z ∧ Q (.bl (if neg then !decide (c ∈ z.cps.toList) else decide (c ∈ z.cps.toList))) H
def rDeep (K : PySem.W.Frag) (neg : Bool) : R2 := fun x y H Q => ∃ d ds, Dp K H x d ∧ Dp K H y (.list ds) ∧ SeqAt.shaped d = true ∧ SeqAt.shaped (.list ds) = true ∧ Q (.bl (if neg then !(ds.any fun z => PyData.eqv z d) else ds.any fun z => PyData.eqv z d)) H
def rInAll (K : PySem.W.Frag) (neg : Bool) : R2 := fun x y H Q => ((rIn K neg x y H Q ∨ rDeep K neg x y H Q) ∨ rDIn neg x y H Q) ∨ rSgn neg x y H Q
theorem op_inAll (hu : X.A.units + 65 < cLine) : OpR X (compareOp .In) (rInAll X.K false) :=
  ((op_in_seq.or (op_inD hu)).or (op_dIn (by omega))).or op_in_sign
theorem op_notInAll (hu : X.A.units + 65 < cLine) : OpR X (compareOp .NotIn) (rInAll X.K true) :=
  ((op_notIn_seq.or (op_notInD hu)).or (op_dNotIn (by omega))).or op_notIn_sign
end
section
variable {g : Gx} {F H : Hp}
theorem py_any {x : D} {px : PyData} (ex : D.py x = some px) : ∀ {l : List D} {pl : List PyData}, D.pys l = some pl → (l.any fun z => eqd z x) = pl.any fun z => PyData.eqv z px
  | [], _, e => by rw [D.pys] at e; cases e; rfl
  | d :: r, _, e => by
    rw [D.pys] at e
    cases q1 : D.py d with
    | none => rw [q1] at e; cases e
    | some a =>
      cases q2 : D.pys r with
      | none => rw [q1, q2] at e; cases e
      | some b =>
        rw [q1, q2] at e; cases e
        rw [List.any_cons, List.any_cons, py_any ex q2]
        unfold eqd pyD
        rw [q1, ex]
theorem val_getK {κ : Type} [DecidableEq κ] : ∀ {kvs : List (κ × V)} {ds : List (κ × D)}, kvs.map (·.1) = ds.map (·.1) → RpAll g F (kvs.map (·.2)) (ds.map (·.2)) → ∀ k : κ,
    (getK ds k = none ∧ valV kvs k = none) ∨ ∃ d v, getK ds k = some d ∧ valV kvs k = some v ∧ Rp g F v d
  | [], [], _, _, k => .inl ⟨rfl, rfl⟩
  | (a, v) :: kvs, (b, d) :: ds, e, r, k => by
    rw [List.map_cons, List.map_cons] at e r
    injection e with e1 e2
    simp only at e1
    subst e1
    cases r with
    | cons h t =>
      by_cases q : a = k
      · refine .inr ⟨d, v, ?_, ?_, h⟩
        · simp [getK, List.find?_cons, q]
        · simp [valV, List.find?_cons, q]
      · have := val_getK e2 t k
        simp only [getK, valV, List.find?_cons, q, decide_false] at this ⊢
        exact this
  | [], _ :: _, e, _, _ => by cases e
  | _ :: _, [], e, _, _ => by cases e
theorem has_getK {κ : Type} [DecidableEq κ] (ds : List (κ × D)) (k : κ) : hasK ds k = (getK ds k).isSome := by
  unfold hasK getK
  induction ds with
  | nil => rfl
  | cons p r ih =>
    rw [List.any_cons, List.find?_cons]
    by_cases q : p.1 = k
    · simp [q]
    · simp only [q, decide_false, Bool.false_or]; exact ih
theorem Vh.tkey {v : V} {d : D} {k : List Key} (s : Same F H) (h : Vh g F H v d) (e : D.tkey d = some k) : ∃ b, v = .ref b ∧ H b = some (.tup (k.map kV)) := by
  cases d with
  | tup l =>
    have e : (if l.length = 2 then none else D.keys l) = some k := e
    by_cases nl : l.length = 2
    · rw [if_pos nl] at e; cases e
    rw [if_neg nl] at e
    obtain ⟨b, xs, rfl, hb, rb⟩ := h.tupH s nl
    rw [keys_eq e] at rb
    exact ⟨b, rfl, by rw [hb, rp_keys rb]⟩
  | _ => cases e
theorem inAll (neg : Bool) {x y : V} {dx dy : D} {b : Bool} {Q : VK} (s : Same F H) (hx : Vh g F H x dx) (hy : Vh g F H y dy) (e : inD dx dy = some b) (q : Q (.bl (if neg then !b else b)) H) : rInAll g.K neg x y H Q := by
  unfold inD at e
  split at e
  · rename_i l
    split at e
    · rename_i h
      cases e
      obtain ⟨a, xs, rfl, ha, ra⟩ := hy.lst s
      refine .inl (.inl (.inl ⟨a, xs, rfl, .inl (.of ha), rp_flat (hx.flat h.1) h.1, rp_flats ra h.2, ?_⟩))
      rw [rp_in (hx.flat h.1) h.1 ra h.2]; exact q
    · split at e
      · rename_i h
        cases e
        obtain ⟨e1, s1⟩ := okq_py h.1
        obtain ⟨e2, s2⟩ := okq_py h.2
        have e3 := e2
        rw [D.py] at e3
        cases q2 : D.pys l with
        | none => rw [q2] at e3; cases e3
        | some pl =>
          rw [q2] at e3
          have e4 : pyD (.lst l) = .list pl := (Option.some.inj e3).symm
          rw [e4] at e2 s2
          refine .inl (.inl (.inr ⟨_, _, hx.dp s e1, hy.dp s e2, s1, s2, ?_⟩))
          rw [← py_any e1 q2]; exact q
      · cases e
  · split at e
    · rename_i l h
      cases e
      obtain ⟨a, xs, rfl, ha, ra⟩ := hy.tup s
      refine .inl (.inl (.inl ⟨a, xs, rfl, .inr ha, rp_flat (hx.flat h.1) h.1, rp_flats ra h.2, ?_⟩))
      rw [rp_in (hx.flat h.1) h.1 ra h.2]; exact q
    · cases e
  · split at e
    · rename_i kvs k hk
      cases e
      obtain ⟨a, vs, rfl, ha, ka, ra⟩ := hy.dkO s
      cases hx.key hk
      refine .inl (.inr ⟨a, _, rfl, dget_k ha, ?_⟩)
      rw [has_getK] at q
      rcases val_getK ka ra k with ⟨h1, h2⟩ | ⟨d, v, h1, h2, _⟩
      · rw [h2]; rw [h1] at q; exact q
      · rw [h2]; rw [h1] at q; exact q
    · cases e
  · split at e
    · rename_i kvs k hk
      cases e
      obtain ⟨a, vs, rfl, ha, ka, ra⟩ := hy.dtO s
      obtain ⟨b, rfl, hb⟩ := hx.tkey s hk
      refine .inl (.inr ⟨a, _, rfl, dget_t ha hb, ?_⟩)
      rw [has_getK] at q
      rcases val_getK ka ra k with ⟨h1, h2⟩ | ⟨d, v, h1, h2, _⟩
      · rw [h2]; rw [h1] at q; exact q
      · rw [h2]; rw [h1] at q; exact q
    · cases e
  · split at e
    · rename_i s0 _ c
      split at e
      · rename_i n hn
        cases e
        cases hx.str; cases hy.str
        refine .inr ⟨n, s0, ?_, rfl, q⟩
        obtain ⟨cps⟩ := c
        obtain ⟨l⟩ := cps
        have : l = [n] := hn
        rw [this]
      · cases e
    · cases e
  · cases e
theorem opIn : Op2 g (rInAll g.K false) oIn := by
  intro F H x y dx dy t Q s hx hy e q
  unfold oIn at e
  split at e
  · rename_i b hb; cases e; exact inAll false s hx hy hb (q.val (.bl _))
  · cases e
theorem opNotIn : Op2 g (rInAll g.K true) oNotIn := by
  intro F H x y dx dy t Q s hx hy e q
  unfold oNotIn at e
  split at e
  · rename_i b hb; cases e; exact inAll true s hx hy hb (q.val (.bl _))
  · cases e
end
/-! ### subscripts -/
def rDIx : R2 := fun x y H Q => ∃ a v, x = .ref a ∧ DGet H a y (some v) ∧ Q v H
theorem ix_dict {X : Cx} (hu : X.A.units + 1 < cLine) : IxR X rDIx := by
  intro value slice pins s σ H x y v u Q I rx ry h hs
  obtain ⟨a, w, rfl, d, q⟩ := h
  cases rx
  exact tail_any (dict_typeIs I d) PySem.F.slot_dict_getitem.lookup (d_getItem hu I d ry fun w' s' I' r' => ⟨w, H, I', r', q⟩) hs
def rIxAll (K : PySem.W.Frag) : R2 := fun x y H Q => (rIxL K x y H Q ∨ rIxT K x y H Q ∨ rIxS x y H Q) ∨ rDIx x y H Q
theorem ix_all {X : Cx} (hu : X.A.units + 1 < cLine) : IxR X (rIxAll X.K) := ix_seq.or (ix_dict hu)
def oIx (x y : D) : Option T :=
  match x with
  | .lst l => match y with | .int i => (atI l i).map .z | _ => none
  | .tup l => match y with | .int i => (atI l i).map .z | _ => none
  | .str s => match y with | .int i => if s.length ≤ lim then (atI s.cps.toList i).map fun c => .z (.str ⟨#[c]⟩) else none | _ => none
  | .dk kvs => match D.key y with | some k => (getK kvs k).map .z | none => none
  | .dt kvs => match D.tkey y with | some k => (getK kvs k).map .z | none => none
  | _ => none
section
variable {g : Gx} {F H : Hp}
theorem at_rp {xs : List V} {ds : List D} {i : Int} {d : D} (r : RpAll g F xs ds) (e : atI ds i = some d) : ∃ v, atI xs i = some v ∧ Rp g F v d := by
  unfold atI at e ⊢
  rw [r.length]
  cases q : ixN ds.length i with
  | none => rw [q] at e; cases e
  | some j =>
    rw [q] at e
    obtain ⟨v, h1, h2⟩ := r.get (i := j) e
    exact ⟨v, h1, h2⟩
theorem opIx : Op2 g (rIxAll g.K) oIx := by
  intro F H x y dx dy t Q s hx hy e q
  unfold oIx at e
  split at e
  · split at e
    · rename_i l _ i
      cases ea : atI l i with
      | none => rw [ea] at e; cases e
      | some d =>
        rw [ea] at e; cases e
        obtain ⟨a, xs, rfl, ha, ra⟩ := hx.lst s
        cases hy.int
        obtain ⟨v, h1, h2⟩ := at_rp ra ea
        exact .inl (.inl ⟨a, xs, i, v, rfl, rfl, .of ha, h1, q.val h2⟩)
    · cases e
  · split at e
    · rename_i l _ i
      cases ea : atI l i with
      | none => rw [ea] at e; cases e
      | some d =>
        rw [ea] at e; cases e
        obtain ⟨a, xs, rfl, ha, ra⟩ := hx.tup s
        cases hy.int
        obtain ⟨v, h1, h2⟩ := at_rp ra ea
        exact .inl (.inr (.inl ⟨a, xs, i, v, rfl, rfl, ha, h1, q.val h2⟩))
    · cases e
  · split at e
    · rename_i l _ i
      split at e
      · rename_i hl
        cases ea : atI l.cps.toList i with
        | none => rw [ea] at e; cases e
        | some d =>
          rw [ea] at e; cases e
          cases hx.str; cases hy.int
          exact .inl (.inr (.inr ⟨l, i, d, rfl, rfl, lim_le hl, ea, q.val (.str _)⟩))
      · cases e
    · cases e
  · split at e
    · rename_i kvs _ k hk
      cases ea : getK kvs k with
      | none => rw [ea] at e; cases e
      | some d =>
        rw [ea] at e; cases e
        obtain ⟨a, vs, rfl, ha, ka, ra⟩ := hx.dkO s
        cases hy.key hk
        rcases val_getK ka ra k with ⟨h1, _⟩ | ⟨d', v, h1, h2, h3⟩
        · rw [h1] at ea; cases ea
        · rw [h1] at ea; cases ea
          refine .inr ⟨a, v, rfl, ?_, q.val h3⟩
          rw [← h2]; exact dget_k ha
    · cases e
  · split at e
    · rename_i kvs _ k hk
      cases ea : getK kvs k with
      | none => rw [ea] at e; cases e
      | some d =>
        rw [ea] at e; cases e
        obtain ⟨a, vs, rfl, ha, ka, ra⟩ := hx.dtO s
        obtain ⟨b, rfl, hb⟩ := hy.tkey s hk
        rcases val_getK ka ra k with ⟨h1, _⟩ | ⟨d', v, h1, h2, h3⟩
        · rw [h1] at ea; cases ea
        · rw [h1] at ea; cases ea
          refine .inr ⟨a, v, rfl, ?_, q.val h3⟩
          rw [← h2]; exact dget_t ha hb
    · cases e
  · cases e
end
/-! ### slices -/
def cutD {α : Type} (xs : List α) (lo hi : Option Int) : List α := (xs.drop (HT.sIx xs.length 0 lo)).take (HT.sIx xs.length xs.length hi - HT.sIx xs.length 0 lo)
def oSl (x : D) (lo hi : Option Int) : Option T :=
  match x with
  | .lst l => some (.l ((cutD l lo hi).map .z))
  | .scr l => some (.l ((cutD l lo hi).map fun i => .z (.int i)))
  | .tup l => if HT.sIx l.length 0 lo = 0 ∧ HT.sIx l.length l.length hi = l.length then none else some (.z (.tup (cutD l lo hi)))
  | .str s => if s.length ≤ lim then some (.z (.str (cutS s lo hi))) else none
  | _ => none
def rSlAll (K : PySem.W.Frag) : V → Option Int → Option Int → Hp → VK → Prop := fun x lo hi H Q => (rSlL K x lo hi H Q ∨ rSlT K x lo hi H Q) ∨ rSlS x lo hi H Q
theorem sl_all {X : Cx} : SlR X (rSlAll X.K) := (sl_list.or sl_tup).or sl_str
section
variable {g : Gx} {F H : Hp}
theorem cut_rp {xs : List V} {ds : List D} (lo hi : Option Int) (r : RpAll g F xs ds) : RpAll g F (cutV xs lo hi) (cutD ds lo hi) := by
  unfold cutV cutD
  rw [r.length]
  exact (r.drop _).take _
theorem cut_map {α β : Type} (f : α → β) (xs : List α) (lo hi : Option Int) : cutD (xs.map f) lo hi = (cutD xs lo hi).map f := by
  unfold cutD
  rw [List.length_map, List.map_take, List.map_drop]
theorem opSl (lo hi : Option Int) : Op1 g (fun x H Q => rSlAll g.K x lo hi H Q) (fun x => oSl x lo hi) := by
  intro F H x dx t Q s hx e q
  simp only at e
  unfold oSl at e
  split at e
  · cases e
    obtain ⟨a, xs, rfl, ha, ra⟩ := hx.lst s
    exact .inl (.inl ⟨a, xs, rfl, .of ha, q.new (cut_rp lo hi ra)⟩)
  · rename_i l
    cases e
    obtain ⟨a, rfl, ha⟩ := hx.scr s
    refine .inl (.inl ⟨a, l.map V.int, rfl, ha, ?_⟩)
    have e2 : (cutD l lo hi).map (fun i => T.z (.int i)) = ((cutD l lo hi).map D.int).map T.z := by rw [List.map_map]; rfl
    rw [e2] at q
    refine q.new ?_
    show RpAll g F (cutD (l.map V.int) lo hi) _
    rw [cut_map]
    exact RpAll.ints _
  · split at e
    · cases e
    · rename_i h
      cases e
      obtain ⟨a, xs, rfl, ha, ra⟩ := hx.tup s
      refine .inl (.inr ⟨a, xs, rfl, ha, ?_, q.newT s (cut_rp lo hi ra)⟩)
      rw [ra.length]; exact h
  · split at e
    · rename_i h; cases e; cases hx.str
      exact .inr ⟨_, rfl, lim_le h, q.val (.str _)⟩
    · cases e
  · cases e
end
/-! ### the built-in functions of one thing -/
def isort : List Int → List Int
  | [] => []
  | x :: r => ins x (isort r)
where ins (x : Int) : List Int → List Int
  | [] => [x]
  | y :: r => if x ≤ y then x :: y :: r else y :: ins x r
def ddp : List Int → List Int
  | [] => []
  | x :: r => x :: (ddp r).filter fun y => decide (y ≠ x)
theorem ins_perm (x : Int) : ∀ l : List Int, (isort.ins x l).Perm (x :: l)
  | [] => List.Perm.refl _
  | y :: r => by
    unfold isort.ins
    split
    · exact List.Perm.refl _
    · exact ((ins_perm x r).cons y).trans (List.Perm.swap x y r)
theorem isort_perm : ∀ l : List Int, (isort l).Perm l
  | [] => List.Perm.refl _
  | x :: r => (ins_perm x (isort r)).trans ((isort_perm r).cons x)
theorem ins_sorted (x : Int) : ∀ {l : List Int}, l.Pairwise (· ≤ ·) → (isort.ins x l).Pairwise (· ≤ ·)
  | [], _ => List.pairwise_singleton _ _
  | y :: r, h => by
    unfold isort.ins
    have h' := List.pairwise_cons.mp h
    split
    · rename_i hxy
      refine List.pairwise_cons.mpr ⟨fun z hz => ?_, h⟩
      rcases List.mem_cons.mp hz with rfl | hz
      · exact hxy
      · have := h'.1 z hz; omega
    · rename_i hxy
      refine List.pairwise_cons.mpr ⟨fun z hz => ?_, ins_sorted x h'.2⟩
      rcases List.mem_cons.mp ((ins_perm x r).mem_iff.mp hz) with rfl | hz
      · omega
      · exact h'.1 z hz
theorem isort_sorted : ∀ l : List Int, (isort l).Pairwise (· ≤ ·)
  | [] => List.Pairwise.nil
  | x :: r => ins_sorted x (isort_sorted r)
theorem sort_unique {l m : List Int} (p : l.Perm m) (h : l.Pairwise (· ≤ ·)) : l = isort m := PySem.W.ksm_same (p.trans (isort_perm m).symm) h (isort_sorted m)
theorem mem_ddp {x : Int} : ∀ {l : List Int}, x ∈ ddp l ↔ x ∈ l
  | [] => Iff.rfl
  | y :: r => by
    rw [ddp, List.mem_cons, List.mem_cons, List.mem_filter, mem_ddp]
    by_cases h : x = y <;> simp [h]
theorem ddp_nodup : ∀ l : List Int, (ddp l).Nodup
  | [] => List.nodup_nil
  | y :: r => by
    rw [ddp, List.nodup_cons]
    exact ⟨by simp [List.mem_filter], (ddp_nodup r).filter _⟩
theorem ddp_length : ∀ l : List Int, (ddp l).length ≤ l.length
  | [] => Nat.le_refl _
  | y :: r => by
    rw [ddp, List.length_cons, List.length_cons]
    have := List.length_filter_le (fun z => decide (z ≠ y)) (ddp r)
    have := ddp_length r
    omega
theorem perm_of_mem {l m : List Int} (hl : l.Nodup) (hm : m.Nodup) (h : ∀ x, x ∈ l ↔ x ∈ m) : l.Perm m := (List.perm_ext_iff_of_nodup hl hm).mpr h
/-- set(xs) -/
def rSetI (K : PySem.W.Frag) (w : World) : List V → Hp → VK → Prop := fun vs H Q => ∃ (a : Addr) (ns : List Int), vs = [V.ref a] ∧ SqL K H a (ns.map V.int) ∧ ns.length < 4000 ∧
  ∀ p, H p = none → Q (.ref p) (upd H p (SetO w p (fun j => decide (j ∈ ns)) (ddp ns).length))
theorem SetR.count {w : World} {h : Heap} {a : Addr} {S : Int → Bool} {n : Nat} (R : SetR w h a S n) {l : List Int} (nd : l.Nodup) (m : ∀ k, k ∈ l ↔ S k = true) : n = l.length := by
  obtain ⟨o, es, ep, t, _, _, _, _, nd2, m2, _, _, hn, _⟩ := R
  have p : (es.toList.map keyOf).Perm l := perm_of_mem nd2 nd fun k => by rw [m k, m2 k]
  have := p.length_eq
  rw [List.length_map, Array.length_toList] at this
  rw [← hn]; exact this
end Ar
/-! ArD: the built-in functions and types, called. -/
namespace Ar
open PySem PySem.Spec PyProof.Rows L2
section
variable {X : Cx}
theorem cr_setI (hc : X.calm = true) : CallR X (.type "set") (rSetI X.K X.w) := by
  intro pins s σ H vs us Q I r h
  obtain ⟨a, ns, rfl, hs, hl, q⟩ := h
  obtain ⟨its, rv, li, hz⟩ := I.list hs
  rw [Vals.ref1 r]
  refine set_of_list ns (I.ok.hd hc) li.isList (by simpa using rv.ints) (by unfold scanBound; omega) fun s' c g1 g2 g3 S hc' k => ?_
  obtain ⟨h', g', d', t', o'⟩ := s'
  simp only at g1 g2 g3 k S
  subst g1 g2 g3
  have fr : H s.heap.objs.size = none := I.fresh
  have ec : c = (ddp ns).length := SetR.count S (ddp_nodup ns) fun k => by rw [mem_ddp]; simp
  subst ec
  exact ⟨.ref _, _, I.laid (a := s.heap.objs.size) (o := SetO X.w s.heap.objs.size (fun j => decide (j ∈ ns)) (ddp ns).length) (t' := t') k (Nat.le_refl _) (setO_new S), rfl, q _ fr⟩
def rSetIT (K : PySem.W.Frag) (w : World) : List V → Hp → VK → Prop := fun vs H Q => ∃ (a : Addr) (ns : List Int), vs = [V.ref a] ∧ SqT K H a (ns.map V.int) ∧ ns.length < 4000 ∧
  ∀ p, H p = none → Q (.ref p) (upd H p (SetO w p (fun j => decide (j ∈ ns)) (ddp ns).length))
theorem cr_setIT (hc : X.calm = true) : CallR X (.type "set") (rSetIT X.K X.w) := by
  intro pins s σ H vs us Q I r h
  obtain ⟨a, ns, rfl, hs, hl, q⟩ := h
  obtain ⟨its, rv, li, hz⟩ := I.tuple hs
  rw [Vals.ref1 r]
  refine call_set_tupI ns (I.ok.hd hc) li (by simpa using rv.ints) (by unfold scanBound; omega) fun h' t' c S hc' k => ?_
  have fr : H s.heap.objs.size = none := I.fresh
  have ec : c = (ddp ns).length := SetR.count S (ddp_nodup ns) fun k => by rw [mem_ddp]; simp
  subst ec
  exact ⟨.ref _, _, I.laid (a := s.heap.objs.size) (o := SetO X.w s.heap.objs.size (fun j => decide (j ∈ ns)) (ddp ns).length) (t' := t') k (Nat.le_refl _) (setO_new S), rfl, q _ fr⟩
/-- len of a set -/
theorem call_lenSt : CallR X (.builtin "len") (fun xs H Q => ∃ a S n, xs = [V.ref a] ∧ H a = some (SetO X.w a S n) ∧ n < 4000 ∧ Q (.int n) H) := by
  intro pins s σ H xs us Q I r h
  obtain ⟨a, S, n, rfl, ha, hn, q⟩ := h
  obtain ⟨u, rfl, ru⟩ := vals1 r
  cases ru
  obtain ⟨o, es, ep, t, ho, hex, hd, _, _, _, _, hf, hsz, _⟩ := setO_get I ha
  refine call_len_set ho hex hd hf (by omega) ?_
  refine ⟨.int n, H, I.tok _, ⟨s.toks + 1, ?_⟩, q⟩
  rw [hsz]
/-- len of a dict, locked or not -/
theorem call_lenDR : CallR X (.builtin "len") (fun xs H Q => ∃ a kvs, xs = [V.ref a] ∧ Rd H a (.dK kvs) ∧ Q (.int kvs.length) H) := by
  intro pins s σ H xs us Q I r h
  obtain ⟨a, kvs, rfl, ha, q⟩ := h
  obtain ⟨u, e, ru⟩ := vals1 r
  subst e
  cases ru
  exact d_len I ha fun t s1 I1 => ⟨.int kvs.length, H, I1, ⟨t, rfl⟩, q⟩
def rLenAll (K : PySem.W.Frag) (w : World) : List V → Hp → VK → Prop := fun xs H Q => ((∃ x n, xs = [x] ∧ LenV K x H n ∧ Q (.int n) H) ∨ (∃ a kvs, xs = [V.ref a] ∧ Rd H a (.dK kvs) ∧ Q (.int kvs.length) H)) ∨
  ∃ a S n, xs = [V.ref a] ∧ H a = some (SetO w a S n) ∧ n < 4000 ∧ Q (.int n) H
theorem call_lenAll : CallR X (.builtin "len") (rLenAll X.K X.w) := (call_len.or call_lenDR).or call_lenSt
end
def oLen : D → Option T
  | .str s => if s.length ≤ lim then some (.z (.int s.length)) else none
  | .lst l => some (.z (.int l.length))
  | .tup l => some (.z (.int l.length))
  | .scr l => some (.z (.int l.length))
  | .dk l => some (.z (.int l.length))
  | .st l => if l.length < 4000 then some (.z (.int l.length)) else none
  | _ => none
def oSorted : D → Option T
  | .lst l => match intsD l with | some ns => some (.l ((isort ns).map fun i => .z (.int i))) | none => none
  | .st l => if l.length < 64 then some (.l ((isort l).map fun i => .z (.int i))) else none
  | _ => none
def oSet : D → Option T
  | .lst l => match intsD l with | some ns => if ns.length < 4000 then some (.z (.st (ddp ns))) else none | none => none
  | .tup l => match intsD l with | some ns => if ns.length < 4000 then some (.z (.st (ddp ns))) else none | none => none
  | _ => none
def oList : D → Option T
  | .lst l => some (.l (l.map .z))
  | .tup l => some (.l (l.map .z))
  | .dk l => some (.l (l.map fun p => .z (kD p.1)))
  | _ => none
def oTuple : D → Option T
  | .lst l => some (.z (.tup l))
  | .tup l => some (.z (.tup l))
  | _ => none
def oSum : D → Option T
  | .lst l => match intsD l with | some ns => some (.z (.int ns.sum)) | none => none
  | .tup l => match intsD l with | some ns => some (.z (.int ns.sum)) | none => none
  | _ => none
def toB : D → Option Bool
  | .bl b => some b
  | _ => none
def blsD : List D → Option (List Bool)
  | [] => some []
  | d :: r => match toB d, blsD r with | some i, some l => some (i :: l) | _, _ => none
theorem toB_eq {d : D} {i : Bool} (e : toB d = some i) : d = .bl i := by cases d <;> first | (cases e; rfl) | cases e
theorem bls_eq : ∀ {ds : List D} {ns : List Bool}, blsD ds = some ns → ds = ns.map D.bl
  | [], ns, e => by cases e; rfl
  | d :: r, ns, e => by
    rw [blsD] at e
    cases q1 : toB d with
    | none => rw [q1] at e; cases e
    | some k =>
      cases q2 : blsD r with
      | none => rw [q1, q2] at e; cases e
      | some l => rw [q1, q2] at e; cases e; rw [toB_eq q1, bls_eq q2]; rfl
theorem bls_of : ∀ ns : List Bool, blsD (ns.map D.bl) = some ns
  | [] => rfl
  | n :: r => by rw [List.map_cons, blsD, bls_of r]; rfl
def oAll : D → Option T
  | .lst l => match blsD l with | some ns => some (.z (.bl (ns.all id))) | none => none
  | _ => none
def oAny : D → Option T
  | .lst l => match blsD l with | some ns => some (.z (.bl (ns.any id))) | none => none
  | _ => none
def oAbs : D → Option T
  | .int i => some (.z (.int (if i < 0 then -i else i)))
  | _ => none
def oInt : D → Option T
  | .int i => some (.z (.int i))
  | .bl b => some (.z (.int (if b then 1 else 0)))
  | .str s => if s.length ≤ 640 then match PySem.intText? s with | some n => some (.z (.int n)) | none => none else none
  | _ => none
def oStr : D → Option T
  | .int i => if i.natAbs < bigS then some (.z (.str (toString i))) else none
  | _ => none
where bigS : Nat := 2 ^ 1900
def oMin2 : D → D → Option T
  | .int i, .int j => some (.z (.int (if j < i then j else i)))
  | _, _ => none
def oMax2 : D → D → Option T
  | .int i, .int j => some (.z (.int (if j > i then j else i)))
  | _, _ => none
def oNeg : D → Option T
  | .int i => some (.z (.int (-i)))
  | _ => none
def oDict : D → Option T
  | .dk kvs => some (.dk (kvs.map fun p => (p.1, .z p.2)))
  | _ => none
section
variable {g : Gx} {F H : Hp}
theorem opLen : Call1 g (rLenAll g.K g.w) oLen := by
  intro F H x dx t Q s hx e q
  unfold oLen at e
  split at e
  · split at e
    · rename_i h; cases e; cases hx.str; exact .inl (.inl ⟨_, _, rfl, ⟨lim_le h, rfl⟩, q.val (.int _)⟩)
    · cases e
  · cases e
    obtain ⟨a, xs, rfl, ha, ra⟩ := hx.lst s
    exact .inl (.inl ⟨_, _, rfl, .inl ⟨xs, .of ha, ra.length.symm⟩, q.val (.int _)⟩)
  · cases e
    obtain ⟨a, xs, rfl, ha, ra⟩ := hx.tup s
    exact .inl (.inl ⟨_, _, rfl, .inr ⟨xs, ha, ra.length.symm⟩, q.val (.int _)⟩)
  · rename_i l
    cases e
    obtain ⟨a, rfl, ha⟩ := hx.scr s
    exact .inl (.inl ⟨_, l.length, rfl, .inl ⟨_, ha, (List.length_map ..).symm⟩, q.val (.int _)⟩)
  · rename_i l
    cases e
    obtain ⟨a, kvs, rfl, ha, k, ra⟩ := hx.dkO s
    have e1 : kvs.length = l.length := by rw [← List.length_map (f := (·.1)), k, List.length_map]
    refine .inl (.inr ⟨a, kvs, rfl, ha, ?_⟩)
    rw [e1]; exact q.val (.int _)
  · split at e
    · rename_i h; cases e
      obtain ⟨a, S, rfl, ha, _, _⟩ := hx.st s
      exact .inr ⟨a, S, _, rfl, ha, h, q.val (.int _)⟩
    · cases e
  · cases e
theorem map_zint (l : List Int) : (l.map fun i => T.z (.int i)) = (l.map D.int).map T.z := by rw [List.map_map]; rfl
def rSortAll (K : PySem.W.Frag) (w : World) : List V → Hp → VK → Prop := fun vs H Q => rSortedI K vs H Q ∨ rSortedSet w vs H Q
theorem cr_sortAll {X : Cx} (hc : X.calm = true) : CallR X (.builtin "sorted") (rSortAll X.K X.w) := cr_sortedI.or (cr_sortedSet hc)
theorem opSorted : Call1 g (rSortAll g.K g.w) oSorted := by
  intro F H x dx t Q s hx e q
  unfold oSorted at e
  split at e
  · split at e
    · rename_i ns hn
      cases e
      obtain ⟨a, xs, rfl, ha, ra⟩ := hx.lst s
      rw [ints_eq hn] at ra
      rw [ra.ints_inv] at ha
      refine .inl ⟨a, ns, rfl, .of ha, fun ns' p h1 h2 hp => ?_⟩
      rw [sort_unique h1 h2]
      rw [map_zint] at q
      exact q.new (RpAll.ints _) p hp
    · cases e
  · split at e
    · rename_i l h
      cases e
      obtain ⟨a, S, rfl, ha, hm, nd⟩ := hx.st s
      refine .inr ⟨a, S, _, rfl, ha, h, fun ns p h1 h2 h3 hp => ?_⟩
      have le : ns.Pairwise (· ≤ ·) := h1.imp fun h => Int.le_of_lt h
      have nd2 : ns.Nodup := h1.imp fun h e => by subst e; exact absurd h (Int.lt_irrefl _)
      rw [sort_unique (perm_of_mem nd2 nd fun k => (h2 k).trans (hm k).symm) le]
      rw [map_zint] at q
      exact q.new (RpAll.ints _) p hp
    · cases e
  · cases e
theorem opList {X : Cx} : Call1 g (fun xs H Q => (∃ p ys, xs = [.ref p] ∧ (SqL g.K H p ys ∨ SqT g.K H p ys) ∧ ∀ l, H l = none → Q (.ref l) (upd H l (.lst ys))) ∨
    (∃ (a : Addr) (kvs : List (Key × V)), xs = [.ref a] ∧ Rd H a (.dK kvs) ∧ ∀ p, H p = none → Q (.ref p) (upd H p (.lst (kvs.map fun kv => kV kv.1))))) oList := by
  intro F H x dx t Q s hx e q
  unfold oList at e
  split at e
  · cases e
    obtain ⟨a, xs, rfl, ha, ra⟩ := hx.lst s
    exact .inl ⟨a, xs, rfl, .inl (.of ha), q.new ra⟩
  · cases e
    obtain ⟨a, xs, rfl, ha, ra⟩ := hx.tup s
    exact .inl ⟨a, xs, rfl, .inr ha, q.new ra⟩
  · rename_i l
    cases e
    obtain ⟨a, kvs, rfl, ha, k, ra⟩ := hx.dkO s
    refine .inr ⟨a, kvs, rfl, ha, ?_⟩
    have e2 : (l.map fun p => T.z (kD p.1)) = ((l.map (·.1)).map kD).map T.z := by rw [List.map_map, List.map_map]; rfl
    rw [e2, ← k] at q
    refine q.new ?_
    have gen : ∀ ks : List (Key × V), RpAll g F (ks.map fun kv => kV kv.1) ((ks.map (·.1)).map kD) := fun ks => by
      induction ks with
      | nil => exact .nil
      | cons p r ih =>
        refine .cons ?_ ih
        obtain ⟨k, v⟩ := p
        cases k with
        | inl i => exact .int i
        | inr i => exact .str i
    exact gen kvs
  · cases e
theorem opTuple : Call1 g (fun xs H Q => ∃ p ys, xs = [.ref p] ∧ ((SqL g.K H p ys ∧ ∀ l, H l = none → Q (.ref l) (upd H l (.tup ys))) ∨ (SqT g.K H p ys ∧ Q (.ref p) H))) oTuple := by
  intro F H x dx t Q s hx e q
  unfold oTuple at e
  split at e
  · cases e
    obtain ⟨a, xs, rfl, ha, ra⟩ := hx.lst s
    exact ⟨a, xs, rfl, .inl ⟨.of ha, q.newT s ra⟩⟩
  · cases e
    have hr := hx.tupR
    obtain ⟨a, xs, rfl, ha, ra⟩ := hx.tup s
    exact ⟨a, xs, rfl, .inr ⟨ha, q.val hr⟩⟩
  · cases e
theorem opSet : Call1 g (fun vs H Q => rSetI g.K g.w vs H Q ∨ rSetIT g.K g.w vs H Q) oSet := by
  intro F H x dx t Q s hx e q
  unfold oSet at e
  split at e
  · split at e
    · rename_i ns hn
      split at e
      · rename_i h4
        cases e
        obtain ⟨a, xs, rfl, ha, ra⟩ := hx.lst s
        rw [ints_eq hn] at ra
        rw [ra.ints_inv] at ha
        refine .inl ⟨a, ns, rfl, .of ha, h4, fun p hp => q.2.2 p _ _ rfl hp (.st upd_same (fun k => ?_) (ddp_nodup ns))⟩
        rw [mem_ddp]; simp
      · cases e
    · cases e
  · split at e
    · rename_i ns hn
      split at e
      · rename_i h4
        cases e
        obtain ⟨a, xs, rfl, ha, ra⟩ := hx.tup s
        rw [ints_eq hn] at ra
        rw [ra.ints_inv] at ha
        refine .inr ⟨a, ns, rfl, ha, h4, fun p hp => q.2.2 p _ _ rfl hp (.st upd_same (fun k => ?_) (ddp_nodup ns))⟩
        rw [mem_ddp]; simp
      · cases e
    · cases e
  · cases e
def rSumT (K : PySem.W.Frag) : List V → Hp → VK → Prop := fun vs H Q => ∃ (a : Addr) (ns : List Int), vs = [V.ref a] ∧ SqT K H a (ns.map V.int) ∧ Q (.int ns.sum) H
theorem cr_sumT {X : Cx} (hc : X.calm = true) : CallR X (.builtin "sum") (rSumT X.K) := by
  intro pins s σ H vs us Q I r h
  obtain ⟨a, ns, rfl, hs, q⟩ := h
  obtain ⟨its, rv, hl, _⟩ := I.tuple hs
  rw [Vals.ref1 r]
  have hi := rv.ints
  obtain ⟨xs, e⟩ := hi.allInts.items
  have hn : numsOf (intItems xs).toList = ns := by rw [← e]; exact hi.numsOf
  rw [nums_intItems] at hn
  rw [e] at hl
  refine PySem.W.ktm_sumG (I.ok.hd hc) hl fun h' tk t' hk => ?_
  rw [preSum_eq, List.take_of_length_le (by simp), hn]
  exact ⟨.int _, H, I.kept hk, ⟨_, rfl⟩, q⟩
theorem opSum : Call1 g (fun vs H Q => rSum g.K vs H Q ∨ rSumT g.K vs H Q) oSum := by
  intro F H x dx t Q s hx e q
  unfold oSum at e
  split at e
  · split at e
    · rename_i ns hn
      cases e
      obtain ⟨a, xs, rfl, ha, ra⟩ := hx.lst s
      rw [ints_eq hn] at ra
      rw [ra.ints_inv] at ha
      exact .inl ⟨a, ns, rfl, .of ha, q.val (.int _)⟩
    · cases e
  · split at e
    · rename_i ns hn
      cases e
      obtain ⟨a, xs, rfl, ha, ra⟩ := hx.tup s
      rw [ints_eq hn] at ra
      rw [ra.ints_inv] at ha
      exact .inr ⟨a, ns, rfl, ha, q.val (.int _)⟩
    · cases e
  · cases e
theorem opAll : Call1 g (rAll g.K) oAll := by
  intro F H x dx t Q s hx e q
  unfold oAll at e
  split at e
  · split at e
    · rename_i ns hn
      cases e
      obtain ⟨a, xs, rfl, ha, ra⟩ := hx.lst s
      rw [bls_eq hn] at ra
      rw [ra.bls_inv] at ha
      exact ⟨a, ns, rfl, .of ha, q.val (.bl _)⟩
    · cases e
  · cases e
theorem opAny : Call1 g (rAny g.K) oAny := by
  intro F H x dx t Q s hx e q
  unfold oAny at e
  split at e
  · split at e
    · rename_i ns hn
      cases e
      obtain ⟨a, xs, rfl, ha, ra⟩ := hx.lst s
      rw [bls_eq hn] at ra
      rw [ra.bls_inv] at ha
      exact ⟨a, ns, rfl, .of ha, q.val (.bl _)⟩
    · cases e
  · cases e
theorem opAbs : Call1 g (fun xs H Q => ∃ i, xs = [.int i] ∧ Q (.int (if i < 0 then -i else i)) H) oAbs := by
  intro F H x dx t Q s hx e q
  unfold oAbs at e
  split at e
  · cases e; cases hx.int; exact ⟨_, rfl, q.val (.int _)⟩
  · cases e
theorem opNeg : Op1 g (rU fun i => .int (-i)) oNeg := by
  intro F H x dx t Q s hx e q
  unfold oNeg at e
  split at e
  · cases e; cases hx.int; exact ⟨_, rfl, q.val (.int _)⟩
  · cases e
theorem opInt : Call1 g (fun xs H Q => ((∃ i, xs = [.int i] ∧ Q (.int i) H) ∨ ∃ k, xs = [.bl k] ∧ Q (.int (if k then 1 else 0)) H) ∨ ∃ a n, xs = [.str a] ∧ PySem.intText? a = some n ∧ a.length ≤ 640 ∧ Q (.int n) H) oInt := by
  intro F H x dx t Q s hx e q
  unfold oInt at e
  split at e
  · cases e; cases hx.int; exact .inl (.inl ⟨_, rfl, q.val (.int _)⟩)
  · cases e; cases hx.bl; exact .inl (.inr ⟨_, rfl, q.val (.int _)⟩)
  · split at e
    · rename_i h
      split at e
      · rename_i n hn; cases e; cases hx.str; exact .inr ⟨_, n, rfl, hn, h, q.val (.int _)⟩
      · cases e
    · cases e
  · cases e
theorem opStr : Call1 g (fun xs H Q => ∃ i, xs = [.int i] ∧ i.natAbs.log2 < 1920 ∧ Q (.str (toString i)) H) oStr := by
  intro F H x dx t Q s hx e q
  unfold oStr at e
  split at e
  · split at e
    · rename_i h; cases e; cases hx.int
      exact ⟨_, rfl, Nat.lt_trans (PySem.Flt.log2_lt_of (by decide) h) (by decide), q.val (.str _)⟩
    · cases e
  · cases e
theorem opMin2 : Call2 g (fun xs H Q => ∃ i j, xs = [.int i, .int j] ∧ Q (.int (if j < i then j else i)) H) oMin2 := by
  intro F H x y dx dy t Q s hx hy e q
  unfold oMin2 at e
  split at e
  · cases e; cases hx.int; cases hy.int; exact ⟨_, _, rfl, q.val (.int _)⟩
  · cases e
theorem opMax2 : Call2 g (fun xs H Q => ∃ i j, xs = [.int i, .int j] ∧ Q (.int (if j > i then j else i)) H) oMax2 := by
  intro F H x y dx dy t Q s hx hy e q
  unfold oMax2 at e
  split at e
  · cases e; cases hx.int; cases hy.int; exact ⟨_, _, rfl, q.val (.int _)⟩
  · cases e
end
end Ar
/-! ArE: what a piece of a def does to its slots (R, M), and the readings that say so (tD, tZ, tV, tAt). -/
namespace Ar
open PySem PySem.Spec PyProof.Rows L2

inductive R (α : Type) where
  | ok (a : α) (ts : List T) | ex (c : Str) (ts : List T) | bad
abbrev M (α : Type) := List T → R α
def M.ret {α : Type} (a : α) : M α := fun ts => .ok a ts
def M.andThen {α β : Type} (m : M α) (f : α → M β) : M β := fun ts => match m ts with
  | .ok a ts' => f a ts'
  | .ex c ts' => .ex c ts'
  | .bad => .bad
instance : Monad M where
  pure := M.ret
  bind := M.andThen
def stop {α : Type} : M α := fun _ => .bad
/-- a value that may not be -/
def opt {α : Type} : Option α → M α
  | some a => M.ret a
  | none => stop
def frz (t : T) : M D := opt t.fz
theorem bind_ok {α β : Type} {m : M α} {f : α → M β} {ts ts' : List T} {a : α} (h : m ts = .ok a ts') : (m >>= f) ts = f a ts' := by
  show M.andThen m f ts = _
  unfold M.andThen; rw [h]
theorem bind_ex {α β : Type} {m : M α} {f : α → M β} {ts ts' : List T} {c : Str} (h : m ts = .ex c ts') : (m >>= f) ts = .ex c ts' := by
  show M.andThen m f ts = _
  unfold M.andThen; rw [h]
theorem bind_bad {α β : Type} {m : M α} {f : α → M β} {ts : List T} (h : m ts = .bad) : (m >>= f) ts = .bad := by
  show M.andThen m f ts = _
  unfold M.andThen; rw [h]
@[simp] theorem pure_ap {α : Type} (a : α) (ts : List T) : (pure a : M α) ts = .ok a ts := rfl
@[simp] theorem opt_some {α : Type} (a : α) (ts : List T) : (opt (some a) : M α) ts = .ok a ts := rfl
@[simp] theorem opt_none {α : Type} (ts : List T) : (opt (none : Option α) : M α) ts = .bad := rfl

/-! ### states -/
section
variable {g : Gx} {F F' Mm M' G G' H H' : Hp} {σ : L2.St} {ts : List T}
theorem Hc.grow {p : Addr} {o : HO} (h : Hc F Mm G H) (n : H p = none) (nt : ∀ xs, o ≠ .tup xs := by intro _ z; cases z) : Hc F Mm G (upd H p o) :=
  ⟨h.fh.trans (same_upd n), h.mh.trans (same_upd n), h.gh.trans (same_upd n), h.fm, h.fg, h.mg, h.ft.cell nt⟩
theorem Sta.grow {p : Addr} {o : HO} (h : Sta g F Mm G H σ ts) (n : H p = none) (nt : ∀ xs, o ≠ .tup xs := by intro _ z; cases z) : Sta g F Mm G (upd H p o) σ ts := ⟨h.hc.grow n nt, h.vs, h.len⟩
/-- more is frozen -/
theorem Sta.more (h : Sta g F Mm G H σ ts) (s : Same F F') (hc : Hc F' Mm G' H') : Sta g F' Mm G' H' σ ts := by
  obtain ⟨vs, r, e⟩ := h.vs
  exact ⟨hc, ⟨vs, r.mono s, e⟩, h.len⟩
/-- a new owned object beside -/
theorem Sta.newO {p : Addr} {o : HO} (h : Sta g F Mm G H σ ts) (n : H p = none) (nt : ∀ xs, o ≠ .tup xs := by intro _ z; cases z) : Sta g F Mm (jn (upd em p o) G) (upd H p o) σ ts ∧ Dj (upd em p o) G := by
  have hc := h.hc
  have fF := hc.fh.free n
  have fM := hc.mh.free n
  have fG := hc.gh.free n
  have d : Dj (upd em p o) G := dj_upd_l Dj.em_l fG
  refine ⟨h.more (Same.refl _) ⟨hc.fh.trans (same_upd n), hc.mh.trans (same_upd n), jn_sub (same_upd_l Same.empty upd_same) (hc.gh.trans (same_upd n)), hc.fm, dj_jn_r (dj_upd_l Dj.em_l fF).symm hc.fg, dj_jn_r (dj_upd_l Dj.em_l fM).symm hc.mg, hc.ft.cell nt⟩, d⟩
/-- a new frozen object -/
theorem Sta.newF {p : Addr} {o : HO} (h : Sta g F Mm G H σ ts) (n : H p = none) : Same F (upd F p o) ∧ Sta g (upd F p o) Mm G (upd H p o) σ ts := by
  have hc := h.hc
  have fF := hc.fh.free n
  have fM := hc.mh.free n
  have fG := hc.gh.free n
  exact ⟨same_upd fF, h.more (same_upd fF) ⟨same_upd_l (hc.fh.trans (same_upd n)) upd_same, hc.mh.trans (same_upd n), hc.gh.trans (same_upd n), dj_upd_l hc.fm fM, dj_upd_l hc.fg fG, hc.mg, hc.ft.both⟩⟩
/-- what was beside is frozen -/
theorem Sta.freeze {Mv : Hp} (h : Sta g F Mm (jn Mv G) H σ ts) (d : Dj Mv G) : Same F (jn F Mv) ∧ Sta g (jn F Mv) Mm G H σ ts := by
  have hc := h.hc
  have dF : Dj F Mv := hc.fg.sub (Same.refl _) jn_l
  have dM : Dj Mm Mv := hc.mg.sub (Same.refl _) jn_l
  refine ⟨jn_l, h.more jn_l ⟨jn_sub hc.fh (jn_l.trans hc.gh), hc.mh, (jn_r d).trans hc.gh, dj_jn hc.fm dM.symm, dj_jn (hc.fg.sub (Same.refl _) (jn_r d)) d, hc.mg.sub (Same.refl _) (jn_r d), hc.ft.mono jn_l⟩⟩
/-- what stands in a slot -/
theorem Sta.slot {i : Nat} {t : T} (h : Sta g F Mm G H σ ts) (e : ts[i]? = some t) (n : t ≠ .gone) : ∃ (v : V) (M1 M2 : Hp) (vs : List V), σ[i]? = some (some v) ∧ RO g F M1 v t ∧ Same M1 Mm ∧ Same M2 Mm ∧ Dj M1 M2 ∧
    (∀ (k : Nat) (v : V) (t : T), vs[k]? = some v → ts[k]? = some t → t = .gone ∨ σ[k]? = some (some v)) ∧ vs[i]? = some v ∧
      ∀ F' M1' v' t' M', Same F F' → RO g F' M1' v' t' → Dj M1' M2 → Same M1' M' → Same M2 M' → ROs g F' M' (vs.set i v') (ts.set i t') := by
  obtain ⟨vs, r, q⟩ := h.vs
  obtain ⟨v, M1, M2, e1, ro, s1, s2, d, back⟩ := r.pick e
  refine ⟨v, M1, M2, vs, ?_, ro, s1, s2, d, q, e1, back⟩
  rcases q i v t e1 e with z | z
  · exact absurd z n
  · exact z
theorem set_slots {vs : List V} {i : Nat} {v : V} {t' : T} (q : ∀ (k : Nat) (v : V) (t : T), vs[k]? = some v → ts[k]? = some t → t = .gone ∨ σ[k]? = some (some v)) (e : σ[i]? = some (some v)) :
    ∀ (k : Nat) (u : V) (t : T), (vs.set i v)[k]? = some u → (ts.set i t')[k]? = some t → t = .gone ∨ σ[k]? = some (some u) := fun k u t h1 h2 => by
  by_cases hk : i = k
  · subst hk
    have : i < vs.length := by
      have := (List.getElem?_eq_some_iff.mp h1).1
      rwa [List.length_set] at this
    rw [List.getElem?_set_self this] at h1
    cases h1
    exact .inr e
  · rw [List.getElem?_set_ne hk] at h1 h2
    exact q k u t h1 h2
/-- a slot's content is changed, its value stays -/
theorem Sta.put {i : Nat} {v : V} {t' : T} {vs : List V} (h : Sta g F Mm G H σ ts) (s : Same F F') (e : σ[i]? = some (some v))
    (q : ∀ (k : Nat) (v : V) (t : T), vs[k]? = some v → ts[k]? = some t → t = .gone ∨ σ[k]? = some (some v))
    (r : ROs g F' M' (vs.set i v) (ts.set i t')) (hc : Hc F' M' G' H') : Sta g F' M' G' H' σ (ts.set i t') :=
  ⟨hc, ⟨_, r, set_slots q e⟩, by rw [List.length_set]; exact h.len⟩
end

/-! ### the readings -/
section
variable (g : Gx) (W : WX)
/-- an expression's: m says what comes (owned), or what is raised -/
def tD (m : M T) : TE := fun σ H Q => ∃ F Mm G ts, Sta g F Mm G H σ ts ∧ match m ts with
  | .bad => False
  | .ok t ts' => ∀ F' Mv M' H' v, Same F F' → RO g F' Mv v t → Sta g F' M' (jn Mv G) H' σ ts' → Dj Mv G → Q v H'
  | .ex c ts' => ∀ F' M' H' C, Same F F' → Sta g F' M' G H' σ ts' → g.mg c = some (.ref C) → W (.ref C) none σ H'
/-- .. what comes is frozen -/
def tZ (m : M D) : TE := fun σ H Q => ∃ F Mm G ts, Sta g F Mm G H σ ts ∧ match m ts with
  | .bad => False
  | .ok d ts' => ∀ F' M' H' v, Same F F' → Rp g F' v d → Sta g F' M' G H' σ ts' → Q v H'
  | .ex c ts' => ∀ F' M' H' C, Same F F' → Sta g F' M' G H' σ ts' → g.mg c = some (.ref C) → W (.ref C) none σ H'
/-- .. what comes is seen -/
def tV (m : M D) : TE := fun σ H Q => ∃ F Mm G ts, Sta g F Mm G H σ ts ∧ match m ts with
  | .bad => False
  | .ok d ts' => ∀ F' M' H' v, Same F F' → Vh g F' H' v d → Sta g F' M' G H' σ ts' → Q v H'
  | .ex c ts' => ∀ F' M' H' C, Same F F' → Sta g F' M' G H' σ ts' → g.mg c = some (.ref C) → W (.ref C) none σ H'
/-- a name, a constant: seen, and nothing happens -/
def tAt (m : List T → Option D) : TE := fun σ H Q => ∃ F Mm G ts d, Sta g F Mm G H σ ts ∧ m ts = some d ∧ ∀ v, Vh g F H v d → Q v H
/-- a test's -/
def tB (m : M Bool) : TT := fun σ H Q => ∃ F Mm G ts, Sta g F Mm G H σ ts ∧ match m ts with
  | .bad => False
  | .ok b ts' => ∀ F' M' H', Same F F' → Sta g F' M' G H' σ ts' → Q b H'
  | .ex c ts' => ∀ F' M' H' C, Same F F' → Sta g F' M' G H' σ ts' → g.mg c = some (.ref C) → W (.ref C) none σ H'
end
theorem pe_imp {X : Cx} {e : Expr} {t t' : TE} (h : PE X e t) (i : ∀ σ H Q, t' σ H Q → t σ H Q) : PE X e t' := ⟨fun pins s σ H Q I q => h.run pins s σ H Q I (i σ H Q q)⟩
theorem pt_imp {X : Cx} {e : Expr} {t t' : TT} (h : PT X e t) (i : ∀ σ H Q, t' σ H Q → t σ H Q) : PT X e t' := ⟨fun pins s σ H Q I q => h.run pins s σ H Q I (i σ H Q q)⟩
theorem pw_imp {X : Cx} {e : Expr} {t t' : TT} (h : PW X e t) (i : ∀ σ H Q, t' σ H Q → t σ H Q) : PW X e t' := ⟨fun wh pins s σ H Q I q => h.run wh pins s σ H Q I (i σ H Q q)⟩
section
variable {g : Gx} {W : WX} {σ : L2.St} {H : Hp} {Q : VK}
theorem out_of {F Mm G : Hp} {ts : List T} {t : T} (st : Sta g F Mm G H σ ts)
    (h : ∀ F' Mv M' H' v, Same F F' → RO g F' Mv v t → Sta g F' M' (jn Mv G) H' σ ts → Dj Mv G → Q v H') : Out g F H t Q := by
  refine ⟨fun v r => h F em Mm H v (Same.refl _) (r em) st Dj.em_l, fun p o n r => ?_, fun p o d e n r => ?_⟩
  · have key : (∀ xs, o ≠ .tup xs) → Q (.ref p) (upd H p o) := fun nt => by
      obtain ⟨s1, d⟩ := st.newO (o := o) n nt
      exact h F (upd em p o) Mm _ _ (Same.refl _) (r _ upd_same) s1 d
    cases o with
    | tup xs =>
      obtain ⟨s0, s1⟩ := st.newF (o := .tup xs) n
      have no : ∀ {o : HO}, upd em p (.tup xs) p = some o → o = .tup xs := fun e => by rw [upd_same] at e; cases e; rfl
      have r1 : RO g (upd F p (.tup xs)) em (.ref p) t := by
        have r0 := r (upd em p (.tup xs)) upd_same
        cases r0 with
        | z q => exact .z (q.mono s0)
        | gone => exact .gone
        | l e => cases no e
        | dk e => cases no e
        | dt e => cases no e
        | ob _ e => cases no e
      exact h _ em Mm _ _ s0 r1 s1 Dj.em_l
    | _ => exact key fun _ z => by cases z
  · subst e
    obtain ⟨s0, s1⟩ := st.newF (o := o) n
    exact h _ em Mm _ _ s0 (.z r) s1 Dj.em_l
/-- the whole of a row: what is raised goes on, what comes is handed on -/
theorem tD_then {α : Type} {m : M T} {f : T → M α} {K : R α → Prop} {F Mm G : Hp} {ts : List T} (st : Sta g F Mm G H σ ts) (hb : ¬ K .bad)
    (hx : ∀ c ts', K (.ex c ts') → ∀ F' M' H' C, Same F F' → Sta g F' M' G H' σ ts' → g.mg c = some (.ref C) → W (.ref C) none σ H')
    (h : K ((m >>= f) ts)) (go : ∀ t ts', m ts = .ok t ts' → K (f t ts') → ∀ F' Mv M' H' v, Same F F' → RO g F' Mv v t → Sta g F' M' (jn Mv G) H' σ ts' → Dj Mv G → Q v H') : tD g W m σ H Q := by
  refine ⟨F, Mm, G, ts, st, ?_⟩
  cases e : m ts with
  | bad => rw [bind_bad e] at h; exact hb h
  | ex c ts' => rw [bind_ex e] at h; exact hx c ts' h
  | ok t ts' => rw [bind_ok e] at h; exact go t ts' e h
theorem tZ_then {α : Type} {m : M D} {f : D → M α} {K : R α → Prop} {F Mm G : Hp} {ts : List T} (st : Sta g F Mm G H σ ts) (hb : ¬ K .bad)
    (hx : ∀ c ts', K (.ex c ts') → ∀ F' M' H' C, Same F F' → Sta g F' M' G H' σ ts' → g.mg c = some (.ref C) → W (.ref C) none σ H')
    (h : K ((m >>= f) ts)) (go : ∀ t ts', m ts = .ok t ts' → K (f t ts') → ∀ F' M' H' v, Same F F' → Rp g F' v t → Sta g F' M' G H' σ ts' → Q v H') : tZ g W m σ H Q := by
  refine ⟨F, Mm, G, ts, st, ?_⟩
  cases e : m ts with
  | bad => rw [bind_bad e] at h; exact hb h
  | ex c ts' => rw [bind_ex e] at h; exact hx c ts' h
  | ok t ts' => rw [bind_ok e] at h; exact go t ts' e h
theorem tV_then {α : Type} {m : M D} {f : D → M α} {K : R α → Prop} {F Mm G : Hp} {ts : List T} (st : Sta g F Mm G H σ ts) (hb : ¬ K .bad)
    (hx : ∀ c ts', K (.ex c ts') → ∀ F' M' H' C, Same F F' → Sta g F' M' G H' σ ts' → g.mg c = some (.ref C) → W (.ref C) none σ H')
    (h : K ((m >>= f) ts)) (go : ∀ t ts', m ts = .ok t ts' → K (f t ts') → ∀ F' M' H' v, Same F F' → Vh g F' H' v t → Sta g F' M' G H' σ ts' → Q v H') : tV g W m σ H Q := by
  refine ⟨F, Mm, G, ts, st, ?_⟩
  cases e : m ts with
  | bad => rw [bind_bad e] at h; exact hb h
  | ex c ts' => rw [bind_ex e] at h; exact hx c ts' h
  | ok t ts' => rw [bind_ok e] at h; exact go t ts' e h
end
end Ar
/-! ArF: the rules of expressions. -/
namespace Ar
open PySem PySem.Spec PyProof.Rows L2

section
variable (g : Gx) (W : WX) (F G : Hp) (σ : L2.St)
def KX (c : Str) (ts' : List T) : Prop := ∀ F' M' H' C, Same F F' → Sta g F' M' G H' σ ts' → g.mg c = some (.ref C) → W (.ref C) none σ H'
def KD (Q : VK) (r : R T) : Prop := match r with
  | .bad => False
  | .ok t ts' => ∀ F' Mv M' H' v, Same F F' → RO g F' Mv v t → Sta g F' M' (jn Mv G) H' σ ts' → Dj Mv G → Q v H'
  | .ex c ts' => KX g W F G σ c ts'
def KZ (Q : VK) (r : R D) : Prop := match r with
  | .bad => False
  | .ok d ts' => ∀ F' M' H' v, Same F F' → Rp g F' v d → Sta g F' M' G H' σ ts' → Q v H'
  | .ex c ts' => KX g W F G σ c ts'
def KV' (Q : VK) (r : R D) : Prop := match r with
  | .bad => False
  | .ok d ts' => ∀ F' M' H' v, Same F F' → Vh g F' H' v d → Sta g F' M' G H' σ ts' → Q v H'
  | .ex c ts' => KX g W F G σ c ts'
def KB (Q : Bool → Hp → Prop) (r : R Bool) : Prop := match r with
  | .bad => False
  | .ok b ts' => ∀ F' M' H', Same F F' → Sta g F' M' G H' σ ts' → Q b H'
  | .ex c ts' => KX g W F G σ c ts'
end
section
variable {g : Gx} {W : WX} {F F1 G : Hp} {σ : L2.St} {Q : VK}
theorem KX.mono {c ts} (s : Same F F1) (h : KX g W F G σ c ts) : KX g W F1 G σ c ts := fun F' M' H' C s1 => h F' M' H' C (s.trans s1)
theorem KD.mono {r} (s : Same F F1) (h : KD g W F G σ Q r) : KD g W F1 G σ Q r := by
  cases r with
  | bad => exact h
  | ok t ts => exact fun F' Mv M' H' v s1 => h F' Mv M' H' v (s.trans s1)
  | ex c ts => exact KX.mono s h
theorem KZ.mono {r} (s : Same F F1) (h : KZ g W F G σ Q r) : KZ g W F1 G σ Q r := by
  cases r with
  | bad => exact h
  | ok t ts => exact fun F' M' H' v s1 => h F' M' H' v (s.trans s1)
  | ex c ts => exact KX.mono s h
theorem KB.mono {r} {Q : Bool → Hp → Prop} (s : Same F F1) (h : KB g W F G σ Q r) : KB g W F1 G σ Q r := by
  cases r with
  | bad => exact h
  | ok t ts => exact fun F' M' H' s1 => h F' M' H' (s.trans s1)
  | ex c ts => exact KX.mono s h
theorem KD.opt {o : Option T} {ts : List T} {Mm H : Hp} (st : Sta g F Mm G H σ ts) (h : KD g W F G σ Q (Ar.opt o ts)) : ∃ t, o = some t ∧ Out g F H t Q := by
  cases o with
  | none => exact h.elim
  | some t => exact ⟨t, rfl, out_of st h⟩
end
section
variable {X : Cx} {W : WX} {a b e : Expr} {pos : Pos}

/-! ### names and constants -/
def vwz : List T → Option (List D)
  | [] => some []
  | .z d :: r => match vwz r with | some l => some (d :: l) | none => none
  | _ :: _ => none
def vwk : List (Key × T) → Option (List (Key × D))
  | [] => some []
  | (k, .z d) :: r => match vwk r with | some l => some ((k, d) :: l) | none => none
  | _ :: _ => none
/-- what is seen of an owned tree -/
def T.vw : T → Option D
  | .z d => some d
  | .l ts => match vwz ts with | some ys => some (.lst ys) | none => none
  | .dk kvs => match vwk kvs with | some ys => some (.dk ys) | none => none
  | .dt kvs => some (.dt kvs)
  | .ob _ _ => none
  | .gone => none
theorem vwz_eq : ∀ {ts : List T} {ds : List D}, vwz ts = some ds → ts = ds.map T.z
  | [], ds, e => by cases e; rfl
  | .z d :: r, ds, e => by
    rw [vwz] at e
    cases q : vwz r with
    | none => rw [q] at e; cases e
    | some l => rw [q] at e; cases e; rw [vwz_eq q]; rfl
  | .l _ :: _, _, e => by cases e
  | .dk _ :: _, _, e => by cases e
  | .dt _ :: _, _, e => by cases e
  | .ob _ _ :: _, _, e => by cases e
  | .gone :: _, _, e => by cases e
theorem vwz_of : ∀ ds : List D, vwz (ds.map T.z) = some ds
  | [] => rfl
  | d :: r => by rw [List.map_cons, vwz, vwz_of r]
theorem vw_l (ds : List D) : T.vw (.l (ds.map T.z)) = some (.lst ds) := by rw [T.vw, vwz_of]
theorem vwk_eq : ∀ {ts : List (Key × T)} {ds : List (Key × D)}, vwk ts = some ds → ts = ds.map fun p => (p.1, T.z p.2)
  | [], ds, e => by cases e; rfl
  | (k, .z d) :: r, ds, e => by
    rw [vwk] at e
    cases q : vwk r with
    | none => rw [q] at e; cases e
    | some l => rw [q] at e; cases e; rw [vwk_eq q]; rfl
  | (_, .l _) :: _, _, e => by cases e
  | (_, .dk _) :: _, _, e => by cases e
  | (_, .dt _) :: _, _, e => by cases e
  | (_, .ob _ _) :: _, _, e => by cases e
  | (_, .gone) :: _, _, e => by cases e
theorem vw_gone {t : T} {d : D} (e : t.vw = some d) : t ≠ .gone := by rintro rfl; cases e
theorem RO.vw {g : Gx} {F M H : Hp} {v : V} {t : T} {d : D} (r : RO g F M v t) (e : t.vw = some d) (s : Same M H) : Vh g F H v d := by
  cases r with
  | z h => cases e; exact .r h
  | l h1 h2 h3 h4 =>
    rename_i ts
    rw [T.vw] at e
    cases q : vwz ts with
    | none => rw [q] at e; cases e
    | some l => rw [q] at e; cases e; rw [vwz_eq q] at h4; exact .l (s _ _ h1) h4.all_of
  | dk h1 h2 h3 h4 h5 =>
    rename_i ts
    rw [T.vw] at e
    cases q : vwk ts with
    | none => rw [q] at e; cases e
    | some l =>
      rw [q] at e; cases e
      have e2 := vwk_eq q
      subst e2
      have e3 : (l.map fun p => (p.1, T.z p.2)).map (·.2) = (l.map (·.2)).map T.z := by rw [List.map_map, List.map_map]; rfl
      rw [e3] at h5
      exact .dk (s _ _ h1) (by rw [h4, List.map_map]; rfl) h5.all_of
  | dt h1 h2 h3 => cases e; exact .dt (s _ _ h1) h2 h3
  | ob _ _ _ _ _ _ _ _ => cases e
  | gone => cases e
def seeN (i : Nat) : List T → Option D := fun ts => (ts[i]?).bind T.vw
theorem pe_seeN {i : Nat} {x : Str} {p : Pos} (hN : X.N[i]? = some x) (hv : Vis X.env.scope x) (hd : (x == ("__debug__" : Str)) = false) (hcd : (x == ("__classdict__" : Str)) = false) : PE X (.Name x p) (tAt (gx X) (seeN i)) :=
  pe_imp (pe_var hN hv hd hcd) fun σ H Q ⟨F, Mm, G, ts, d, st, e, q⟩ => by
    unfold seeN at e
    cases q1 : ts[i]? with
    | none => rw [q1] at e; cases e
    | some t =>
      rw [q1] at e
      obtain ⟨v, M1, M2, vs, e1, r, s1, _⟩ := st.slot q1 (vw_gone e)
      exact ⟨v, e1, q v (r.vw e (s1.trans st.hc.mh))⟩
theorem pe_seeC {d : D} {v : V} (h : PE X e (tC v)) (r : ∀ F, Rp (gx X) F v d) : PE X e (tAt (gx X) fun _ => some d) :=
  pe_imp h fun σ H Q ⟨F, Mm, G, ts, d', st, e, q⟩ => by cases e; exact q v (.r (r F))
/-- a name read as a thing of its own: what it holds is frozen -/
def rdz (i : Nat) : M T := fun ts => match ts[i]? with
  | some t => match t.fz with
    | some d => .ok (.z d) (ts.set i (.z d))
    | none => .bad
  | none => .bad
theorem fz_gone {t : T} {d : D} (e : t.fz = some d) : t ≠ .gone := by rintro rfl; cases e
theorem pe_rdz {i : Nat} {x : Str} {p : Pos} (hN : X.N[i]? = some x) (hv : Vis X.env.scope x) (hd : (x == ("__debug__" : Str)) = false) (hcd : (x == ("__classdict__" : Str)) = false) : PE X (.Name x p) (tD (gx X) W (rdz i)) :=
  pe_imp (pe_var hN hv hd hcd) fun σ H Q ⟨F, Mm, G, ts, st, k⟩ => by
    unfold rdz at k
    cases q1 : ts[i]? with
    | none => rw [q1] at k; exact k.elim
    | some t =>
      simp only [q1] at k
      cases q2 : t.fz with
      | none => rw [q2] at k; exact k.elim
      | some d =>
        simp only [q2] at k
        obtain ⟨v, M1, M2, vs, e1, r, s1, s2, dj, q, ev, back⟩ := st.slot q1 (fz_gone q2)
        have hc := st.hc
        have d1 : Dj F M1 := hc.fm.sub (Same.refl _) s1
        have d2 : Dj F M2 := hc.fm.sub (Same.refl _) s2
        have rp : Rp (gx X) (jn F M1) v d := r.fz q2 jn_l (jn_r d1)
        refine ⟨v, e1, k (jn F M1) em M2 H v jn_l (.z rp) ?_ Dj.em_l⟩
        refine st.put (G' := jn em G) (H' := H) jn_l e1 q (back _ em v (.z d) M2 jn_l (.z rp) Dj.em_l Same.empty (Same.refl _)) ?_
        exact ⟨jn_sub hc.fh (s1.trans hc.mh), s2.trans hc.mh, hc.gh, dj_jn d2 dj, dj_jn hc.fg (hc.mg.sub s1 (Same.refl _)), hc.mg.sub s2 (Same.refl _), hc.ft.mono jn_l⟩
/-- a name handed on: an owned thing leaves its slot -/
def mv (i : Nat) : M T := fun ts => match ts[i]? with
  | some (.z d) => .ok (.z d) ts
  | some .gone => .bad
  | some t => .ok t (ts.set i .gone)
  | none => .bad
theorem Sta.take {g : Gx} {F Mm G H : Hp} {σ : L2.St} {ts : List T} {i : Nat} {t : T} (st : Sta g F Mm G H σ ts) (q1 : ts[i]? = some t) (n : t ≠ .gone) :
    ∃ v M1 M2, σ[i]? = some (some v) ∧ RO g F M1 v t ∧ Sta g F M2 (jn M1 G) H σ (ts.set i .gone) ∧ Dj M1 G := by
  obtain ⟨v, M1, M2, vs, e1, r, s1, s2, dj, q, ev, back⟩ := st.slot q1 n
  have hc := st.hc
  have d1 : Dj M1 G := hc.mg.sub s1 (Same.refl _)
  refine ⟨v, M1, M2, e1, r, ?_, d1⟩
  refine st.put (Same.refl _) e1 q (back F em v .gone M2 (Same.refl _) .gone Dj.em_l Same.empty (Same.refl _)) ?_
  exact ⟨hc.fh, s2.trans hc.mh, jn_sub (s1.trans hc.mh) hc.gh, hc.fm.sub (Same.refl _) s2, dj_jn_r (hc.fm.sub (Same.refl _) s1) hc.fg, dj_jn_r dj.symm (hc.mg.sub s2 (Same.refl _)), hc.ft⟩
theorem pe_mv {i : Nat} {x : Str} {p : Pos} (hN : X.N[i]? = some x) (hv : Vis X.env.scope x) (hd : (x == ("__debug__" : Str)) = false) (hcd : (x == ("__classdict__" : Str)) = false) : PE X (.Name x p) (tD (gx X) W (mv i)) :=
  pe_imp (pe_var hN hv hd hcd) fun σ H Q ⟨F, Mm, G, ts, st, k⟩ => by
    unfold mv at k
    have own : ∀ t : T, ts[i]? = some t → t ≠ .gone → KD (gx X) W F G σ Q (.ok t (ts.set i .gone)) → ∃ v, σ[i]? = some (some v) ∧ Q v H := fun t q1 n k => by
      obtain ⟨v, M1, M2, e1, r, st2, d⟩ := st.take q1 n
      exact ⟨v, e1, k F M1 M2 H v (Same.refl _) r st2 d⟩
    cases q1 : ts[i]? with
    | none => rw [q1] at k; exact k.elim
    | some t =>
      rw [q1] at k
      cases t with
      | gone => exact k.elim
      | z d =>
        obtain ⟨v, M1, M2, vs, e1, r, s1, _⟩ := st.slot q1 (fun z => nomatch z)
        refine ⟨v, e1, k F em Mm H v (Same.refl _) ?_ st Dj.em_l⟩
        cases r with | z h => exact .z h
      | l ts' => exact own _ q1 (fun z => nomatch z) k
      | dk ts' => exact own _ q1 (fun z => nomatch z) k
      | dt ts' => exact own _ q1 (fun z => nomatch z) k
      | ob c ts' => exact own _ q1 (fun z => nomatch z) k
theorem pe_const {d : D} {v : V} (h : PE X e (tC v)) (r : ∀ F, Rp (gx X) F v d) : PE X e (tD (gx X) W (M.ret (.z d))) :=
  pe_imp h fun σ H Q ⟨F, Mm, G, ts, st, k⟩ => k F em Mm H v (Same.refl _) (.z (r F)) st Dj.em_l

/-! ### freezing, seeing -/
theorem pe_frz {m : M T} (h : PE X e (tD (gx X) W m)) : PE X e (tZ (gx X) W (m >>= frz)) :=
  pe_imp h fun σ H Q ⟨F, Mm, G, ts, st, k⟩ => tD_then (K := KZ (gx X) W F G σ Q) st id (fun _ _ z => z) k fun t ts1 _ k1 F1 Mv M1 H1 v s1 r st1 dj => by
    unfold frz at k1
    cases q : t.fz with
    | none => rw [q] at k1; exact k1.elim
    | some d =>
      rw [q] at k1
      obtain ⟨s2, st2⟩ := st1.freeze dj
      exact k1 _ M1 H1 v (s1.trans s2) (r.fz q s2 (jn_r (st1.hc.fg.sub (Same.refl _) jn_l))) st2
theorem pe_zv {m : M D} (h : PE X e (tZ (gx X) W m)) : PE X e (tV (gx X) W m) :=
  pe_imp h fun σ H Q ⟨F, Mm, G, ts, st, k⟩ => ⟨F, Mm, G, ts, st, by
    cases q : m ts with
    | bad => rw [q] at k; exact k
    | ex c ts' => rw [q] at k; exact k
    | ok d ts' => rw [q] at k; exact fun F' M' H' v s r st' => k F' M' H' v s (.r r) st'⟩
def see (m : List T → Option D) : M D := fun ts => opt (m ts) ts
theorem pe_atv {m : List T → Option D} (h : PE X e (tAt (gx X) m)) : PE X e (tV (gx X) W (see m)) :=
  pe_imp h fun σ H Q ⟨F, Mm, G, ts, st, k⟩ => by
    unfold see at k
    cases q : m ts with
    | none => rw [q] at k; exact k.elim
    | some d => rw [q] at k; exact ⟨F, Mm, G, ts, d, st, q, fun v r => k F Mm H v (Same.refl _) r st⟩

/-! ### two things in a row, then what is done with both -/
/-- b is any expression: a is frozen -/
theorem two_Z {ta tb : TE} {ma mb : M D} {f : D → D → Option T} {R2' : V → V → Hp → VK → Prop} (hs : Op2 (gx X) R2' f) (ha : PE X a (tZ (gx X) W ma)) (hb : PE X b (tV (gx X) W mb)) {σ : L2.St} {H : Hp} {Q : VK}
    (h : tD (gx X) W (ma >>= fun x => mb >>= fun y => opt (f x y)) σ H Q) : tZ (gx X) W ma σ H fun x H1 => tV (gx X) W mb σ H1 fun y H2 => R2' x y H2 Q := by
  obtain ⟨F, Mm, G, ts, st, k⟩ := h
  refine tZ_then (K := KD (gx X) W F G σ Q) st id (fun _ _ z => z) k fun da ts1 _ k1 F1 M1 H1 v1 s1 r1 st1 => ?_
  refine tV_then (K := KD (gx X) W F1 G σ Q) st1 id (fun _ _ z => z) (KD.mono s1 k1) fun db ts2 _ k2 F2 M2 H2 v2 s2 r2 st2 => ?_
  obtain ⟨t, e, o⟩ := KD.opt st2 (KD.mono s2 k2)
  exact hs F2 H2 v1 v2 da db t Q st2.hc.fh (.r (r1.mono s2)) r2 e o
/-- b is a name or a constant -/
theorem two_A {ma : M D} {mb : List T → Option D} {f : D → D → Option T} {R2' : V → V → Hp → VK → Prop} (hs : Op2 (gx X) R2' f) {σ : L2.St} {H : Hp} {Q : VK}
    (h : tD (gx X) W (ma >>= fun x => see mb >>= fun y => opt (f x y)) σ H Q) : tV (gx X) W ma σ H fun x H1 => tAt (gx X) mb σ H1 fun y H2 => R2' x y H2 Q := by
  obtain ⟨F, Mm, G, ts, st, k⟩ := h
  refine tV_then (K := KD (gx X) W F G σ Q) st id (fun _ _ z => z) k fun da ts1 _ k1 F1 M1 H1 v1 s1 r1 st1 => ?_
  cases q : mb ts1 with
  | none =>
    have : (see mb >>= fun y => opt (f da y)) ts1 = .bad := bind_bad (by unfold see; rw [q]; rfl)
    rw [this] at k1; exact k1.elim
  | some db =>
    refine ⟨F1, M1, G, ts1, db, st1, q, fun v2 r2 => ?_⟩
    have e1 : (see mb >>= fun y => opt (f da y)) ts1 = opt (f da db) ts1 := bind_ok (by unfold see; rw [q]; rfl)
    rw [e1] at k1
    obtain ⟨t, e, o⟩ := KD.opt st1 (KD.mono s1 k1)
    exact hs F1 H1 v1 v2 da db t Q st1.hc.fh r1 r2 e o
/-- one thing, then what is done with it -/
theorem one_V {ma : M D} {f : D → Option T} {R1' : V → Hp → VK → Prop} (hs : Op1 (gx X) R1' f) {σ : L2.St} {H : Hp} {Q : VK}
    (h : tD (gx X) W (ma >>= fun x => opt (f x)) σ H Q) : tV (gx X) W ma σ H fun x H1 => R1' x H1 Q := by
  obtain ⟨F, Mm, G, ts, st, k⟩ := h
  refine tV_then (K := KD (gx X) W F G σ Q) st id (fun _ _ z => z) k fun da ts1 _ k1 F1 M1 H1 v1 s1 r1 st1 => ?_
  obtain ⟨t, e, o⟩ := KD.opt st1 (KD.mono s1 k1)
  exact hs F1 H1 v1 da t Q st1.hc.fh r1 e o
variable {op : Operator} {cop : CmpOp} {r : R2} {f : D → D → Option T} {ma mb : M D} {mc : List T → Option D}
theorem pe_binZ (ho : OpR X (binaryOp op) r) (hs : Op2 (gx X) r f) (ha : PE X a (tZ (gx X) W ma)) (hb : PE X b (tV (gx X) W mb)) : PE X (.BinOp a op b pos) (tD (gx X) W (ma >>= fun x => mb >>= fun y => opt (f x y))) :=
  pe_imp (pe_op ho ha hb) fun _ _ _ h => two_Z (ta := tZ (gx X) W ma) (tb := tV (gx X) W mb) hs ha hb h
theorem pe_binA (ho : OpR X (binaryOp op) r) (hs : Op2 (gx X) r f) (ha : PE X a (tV (gx X) W ma)) (hb : PE X b (tAt (gx X) mc)) : PE X (.BinOp a op b pos) (tD (gx X) W (ma >>= fun x => see mc >>= fun y => opt (f x y))) :=
  pe_imp (pe_op ho ha hb) fun _ _ _ h => two_A hs h
theorem pe_cmpZ (ho : OpR X (compareOp cop) r) (hs : Op2 (gx X) r f) (ha : PE X a (tZ (gx X) W ma)) (hb : PE X b (tV (gx X) W mb)) (hm : behindInMarks cop b = false) : PE X (.Compare a [cop] [b] pos) (tD (gx X) W (ma >>= fun x => mb >>= fun y => opt (f x y))) :=
  pe_imp (pe_cmpR ho ha hb hm) fun _ _ _ h => two_Z (ta := tZ (gx X) W ma) (tb := tV (gx X) W mb) hs ha hb h
theorem pe_cmpA (ho : OpR X (compareOp cop) r) (hs : Op2 (gx X) r f) (ha : PE X a (tV (gx X) W ma)) (hb : PE X b (tAt (gx X) mc)) (hm : behindInMarks cop b = false) : PE X (.Compare a [cop] [b] pos) (tD (gx X) W (ma >>= fun x => see mc >>= fun y => opt (f x y))) :=
  pe_imp (pe_cmpR ho ha hb hm) fun _ _ _ h => two_A hs h
theorem pe_ixZ (ho : IxR X r) (hs : Op2 (gx X) r f) (ha : PE X a (tZ (gx X) W ma)) (hb : PE X b (tV (gx X) W mb)) (hm : PlainIx b) : PE X (.Subscript a b pos) (tD (gx X) W (ma >>= fun x => mb >>= fun y => opt (f x y))) :=
  pe_imp (pe_ix ho ha hb hm) fun _ _ _ h => two_Z (ta := tZ (gx X) W ma) (tb := tV (gx X) W mb) hs ha hb h
theorem pe_ixA (ho : IxR X r) (hs : Op2 (gx X) r f) (ha : PE X a (tV (gx X) W ma)) (hb : PE X b (tAt (gx X) mc)) (hm : PlainIx b) : PE X (.Subscript a b pos) (tD (gx X) W (ma >>= fun x => see mc >>= fun y => opt (f x y))) :=
  pe_imp (pe_ix ho ha hb hm) fun _ _ _ h => two_A hs h
end
end Ar
/-! ArG: calls of built-ins, displays, tests, calls of the text's own defs. -/
namespace Ar
open PySem PySem.Spec PyProof.Rows L2

def nst : Expr → Bool
  | .Starred _ _ => false
  | _ => true
theorem star_of {e : Expr} (h : nst e = true) (es : List Expr) (env : Env) : starEach (e :: es) env = (false, eval e env) :: starEach es env := by
  cases e <;> first | rfl | cases h
theorem star_all : ∀ {es : List Expr} (h : es.all nst = true) (env : Env) (pos : Pos), (backTo pos (starEach es env)).any (·.1) = false
  | [], _, _, _ => rfl
  | e :: es, h, env, pos => by
    rw [List.all_cons, Bool.and_eq_true] at h
    rw [star_of h.1]
    have ih := star_all h.2 env pos
    unfold backTo at ih ⊢
    simp only [List.map_cons, List.any_cons, Bool.false_or]
    exact ih
section
variable {X : Cx} {W : WX} {a b e : Expr} {es : List Expr} {pos p : Pos} {x : Str} {id T' : String}
variable {r : List V → Hp → VK → Prop} {ma mb : M D} {mc : List T → Option D}
theorem pe_call1 {f : D → Option T} (hc : CallR X (.builtin id) r) (hs : Call1 (gx X) r f) (hg : Gl X x) (hm : X.mg x = none) (hv : bootBuiltins x = some (.builtin id)) (hn : x ≠ "__name__") (hdb : (x == ("__debug__" : Str)) = false) (ha : PE X a (tV (gx X) W ma)) (n1 : nst a = true) :
    PE X (.Call (.Name x p) [a] [] pos) (tD (gx X) W (ma >>= fun y => opt (f y))) :=
  pe_imp (pe_callB hc hg hm hv (pa_cons ha pa_nil (star_of n1 _ _)) hn hdb (star_of n1 _ _) rfl) fun _ _ _ h => one_V (R1' := fun x H Q => r [x] H Q) hs h
theorem pe_callT1 {f : D → Option T} (hc : CallR X (.type T') r) (hs : Call1 (gx X) r f) (hg : Gl X x) (hm : X.mg x = none) (hv : bootBuiltins x = some (.type T')) (hn : x ≠ "__name__") (hdb : (x == ("__debug__" : Str)) = false) (ha : PE X a (tV (gx X) W ma)) (n1 : nst a = true) :
    PE X (.Call (.Name x p) [a] [] pos) (tD (gx X) W (ma >>= fun y => opt (f y))) :=
  pe_imp (pe_callTy hc hg hm hv (pa_cons ha pa_nil (star_of n1 _ _)) hn hdb (star_of n1 _ _) rfl) fun _ _ _ h => one_V (R1' := fun x H Q => r [x] H Q) hs h
theorem pe_call2Z {f : D → D → Option T} (hc : CallR X (.builtin id) r) (hs : Call2 (gx X) r f) (hg : Gl X x) (hm : X.mg x = none) (hv : bootBuiltins x = some (.builtin id)) (hn : x ≠ "__name__") (hdb : (x == ("__debug__" : Str)) = false)
    (ha : PE X a (tZ (gx X) W ma)) (hb : PE X b (tV (gx X) W mb)) (n1 : nst a = true) (n2 : nst b = true) :
    PE X (.Call (.Name x p) [a, b] [] pos) (tD (gx X) W (ma >>= fun x => mb >>= fun y => opt (f x y))) :=
  pe_imp (pe_callB hc hg hm hv (pa_cons ha (pa_cons hb pa_nil (star_of n2 _ _)) (star_of n1 _ _)) hn hdb (star_of n1 _ _) (star_all (by simp [n2]) _ _)) fun _ _ _ h =>
    two_Z (ta := tZ (gx X) W ma) (tb := tV (gx X) W mb) (R2' := fun x y H Q => r [x, y] H Q) hs ha hb h
theorem pe_call2A {f : D → D → Option T} (hc : CallR X (.builtin id) r) (hs : Call2 (gx X) r f) (hg : Gl X x) (hm : X.mg x = none) (hv : bootBuiltins x = some (.builtin id)) (hn : x ≠ "__name__") (hdb : (x == ("__debug__" : Str)) = false)
    (ha : PE X a (tV (gx X) W ma)) (hb : PE X b (tAt (gx X) mc)) (n1 : nst a = true) (n2 : nst b = true) :
    PE X (.Call (.Name x p) [a, b] [] pos) (tD (gx X) W (ma >>= fun x => see mc >>= fun y => opt (f x y))) :=
  pe_imp (pe_callB hc hg hm hv (pa_cons ha (pa_cons hb pa_nil (star_of n2 _ _)) (star_of n1 _ _)) hn hdb (star_of n1 _ _) (star_all (by simp [n2]) _ _)) fun _ _ _ h =>
    two_A (R2' := fun x y H Q => r [x, y] H Q) hs h
theorem pe_un1 {uop : UnaryOp} {r1 : V → Hp → VK → Prop} {f : D → Option T} (ho : UnR X (unaryOp uop) r1) (hs : Op1 (gx X) r1 f) (ha : PE X a (tV (gx X) W ma)) : PE X (.UnaryOp uop a pos) (tD (gx X) W (ma >>= fun y => opt (f y))) :=
  pe_imp (pe_un ho ha) fun _ _ _ h => one_V hs h

/-! ### tests -/
def asB (t : T) : M Bool := match t with
  | .z (.bl b) => M.ret b
  | _ => stop
theorem asB_eq {t : T} {σ : L2.St} {F G : Hp} {Q : Bool → Hp → Prop} {ts : List T} {g : Gx} (h : KB g W F G σ Q (asB t ts)) : ∃ b, t = .z (.bl b) ∧ KB g W F G σ Q (.ok b ts) := by
  unfold asB at h
  split at h
  · exact ⟨_, rfl, h⟩
  · exact h.elim
theorem tB_of {m : M T} {σ : L2.St} {H : Hp} {Q : Bool → Hp → Prop} (h : tB (gx X) W (m >>= asB) σ H Q) : tD (gx X) W m σ H fun x H1 => ∃ k, x = .bl k ∧ Q k H1 := by
  obtain ⟨F, Mm, G, ts, st, k⟩ := h
  refine tD_then (K := KB (gx X) W F G σ Q) st id (fun _ _ z => z) k fun t ts1 _ k1 F1 Mv M1 H1 v s1 r st1 dj => ?_
  obtain ⟨b, rfl, k2⟩ := asB_eq k1
  cases r with
  | z r =>
    cases r
    obtain ⟨s2, st2⟩ := st1.freeze dj
    exact ⟨b, rfl, k2 _ M1 H1 (s1.trans s2) st2⟩
def plainT : Expr → Bool
  | .Name _ _ => true
  | .Call _ _ _ _ => true
  | .Subscript _ _ _ => true
  | .Constant _ _ _ => true
  | .Attribute _ _ _ => true
  | _ => false
theorem pt_plain {m : M T} (h : PE X e (tD (gx X) W m)) (hp : plainT e = true) : PT X e (tB (gx X) W (m >>= asB)) := by
  refine pt_imp (pt_val h ?_) fun _ _ _ q => tB_of q
  cases e <;> first | (intro _; rfl) | cases hp
theorem pt_cmpZ' {cop : CmpOp} {r : R2} {f : D → D → Option T} (ho : OpR X (compareOp cop) r) (hs : Op2 (gx X) r f) (ha : PE X a (tZ (gx X) W ma)) (hb : PE X b (tV (gx X) W mb)) (hm : behindInMarks cop b = false) :
    PT X (.Compare a [cop] [b] pos) (tB (gx X) W ((ma >>= fun x => mb >>= fun y => opt (f x y)) >>= asB)) :=
  pt_imp (pt_cmpR ho ha hb hm) fun _ _ _ h => two_Z (ta := tZ (gx X) W ma) (tb := tV (gx X) W mb) hs ha hb (tB_of h)
theorem pt_cmpA' {cop : CmpOp} {r : R2} {f : D → D → Option T} (ho : OpR X (compareOp cop) r) (hs : Op2 (gx X) r f) (ha : PE X a (tV (gx X) W ma)) (hb : PE X b (tAt (gx X) mc)) (hm : behindInMarks cop b = false) :
    PT X (.Compare a [cop] [b] pos) (tB (gx X) W ((ma >>= fun x => see mc >>= fun y => opt (f x y)) >>= asB)) :=
  pt_imp (pt_cmpR ho ha hb hm) fun _ _ _ h => two_A hs (tB_of h)
theorem pt_notB {m : M Bool} (h : PT X a (tB (gx X) W m)) : PT X (.UnaryOp .Not a pos) (tB (gx X) W (m >>= fun b => M.ret !b)) :=
  pt_imp (pt_not h) fun σ H Q ⟨F, Mm, G, ts, st, k⟩ => by
    refine ⟨F, Mm, G, ts, st, ?_⟩
    cases q : m ts with
    | bad => rw [bind_bad q] at k; exact k
    | ex c ts' => rw [bind_ex q] at k; exact k
    | ok b ts' => rw [bind_ok q] at k; exact k
def andB (m n : M Bool) : M Bool := m >>= fun b => if b = true then n else M.ret false
def orB (m n : M Bool) : M Bool := m >>= fun b => if b = true then M.ret true else n
theorem tB_then {α : Type} {m : M Bool} {f : Bool → M α} {K : R α → Prop} {F Mm G H : Hp} {σ : L2.St} {Q : Bool → Hp → Prop} {ts : List T} (st : Sta (gx X) F Mm G H σ ts) (hb : ¬ K .bad)
    (hx : ∀ c ts', K (.ex c ts') → KX (gx X) W F G σ c ts')
    (h : K ((m >>= f) ts)) (go : ∀ b ts', m ts = .ok b ts' → K (f b ts') → ∀ F' M' H', Same F F' → Sta (gx X) F' M' G H' σ ts' → Q b H') : tB (gx X) W m σ H Q := by
  refine ⟨F, Mm, G, ts, st, ?_⟩
  cases e : m ts with
  | bad => rw [bind_bad e] at h; exact hb h
  | ex c ts' => rw [bind_ex e] at h; exact hx c ts' h
  | ok t ts' => rw [bind_ok e] at h; exact go t ts' e h
theorem pw_andB {m n : M Bool} (h1 : PT X a (tB (gx X) W m)) (h2 : PW X (.BoolOp .And (b :: es) pos) (tB (gx X) W n)) : PW X (.BoolOp .And (a :: b :: es) pos) (tB (gx X) W (andB m n)) :=
  pw_imp (pw_and h1 h2) fun σ H Q ⟨F, Mm, G, ts, st, k⟩ => by
    refine tB_then (K := KB (gx X) W F G σ Q) st id (fun _ _ z => z) k fun c ts1 _ k1 F1 M1 H1 s1 st1 => ?_
    cases c with
    | true => exact ⟨F1, M1, G, ts1, st1, KB.mono s1 k1⟩
    | false => exact k1 F1 M1 H1 s1 st1
theorem pw_orB {m n : M Bool} (h1 : PT X a (tB (gx X) W m)) (h2 : PW X (.BoolOp .Or (b :: es) pos) (tB (gx X) W n)) : PW X (.BoolOp .Or (a :: b :: es) pos) (tB (gx X) W (orB m n)) :=
  pw_imp (pw_or h1 h2) fun σ H Q ⟨F, Mm, G, ts, st, k⟩ => by
    refine tB_then (K := KB (gx X) W F G σ Q) st id (fun _ _ z => z) k fun c ts1 _ k1 F1 M1 H1 s1 st1 => ?_
    cases c with
    | false => exact ⟨F1, M1, G, ts1, st1, KB.mono s1 k1⟩
    | true => exact k1 F1 M1 H1 s1 st1
/-- as values: all but the last are True or False -/
def andV (m : M T) (n : M T) : M T := m >>= asB >>= fun b => if b = true then n else M.ret (.z (.bl false))
def orV (m : M T) (n : M T) : M T := m >>= asB >>= fun b => if b = true then M.ret (.z (.bl true)) else n
theorem tD_B {m : M T} {f : Bool → M T} {σ : L2.St} {H : Hp} {Q : VK} {Q' : V → Hp → Prop}
    (h : tD (gx X) W (m >>= asB >>= f) σ H Q) (go : ∀ b F1 M1 G ts1 H1, Sta (gx X) F1 M1 G H1 σ ts1 → KD (gx X) W F1 G σ Q (f b ts1) → Q' (.bl b) H1) : tD (gx X) W m σ H Q' := by
  obtain ⟨F, Mm, G, ts, st, k⟩ := h
  have k' : KD (gx X) W F G σ Q ((m >>= fun t => asB t >>= f) ts) := by
    have e : (m >>= asB >>= f) ts = (m >>= fun t => asB t >>= f) ts := by
      show M.andThen (M.andThen m asB) f ts = M.andThen m (fun t => M.andThen (asB t) f) ts
      unfold M.andThen
      cases m ts <;> rfl
    rw [← e]; exact k
  refine tD_then (K := KD (gx X) W F G σ Q) st id (fun _ _ z => z) k' fun t ts1 _ k1 F1 Mv M1 H1 v s1 r st1 dj => ?_
  have : ∃ b, t = .z (.bl b) ∧ KD (gx X) W F G σ Q (f b ts1) := by
    unfold asB at k1
    split at k1
    · exact ⟨_, rfl, k1⟩
    · exact k1.elim
  obtain ⟨b, rfl, k2⟩ := this
  cases r with
  | z r =>
    cases r
    obtain ⟨s2, st2⟩ := st1.freeze dj
    exact go b _ M1 G ts1 H1 st2 (KD.mono (s1.trans s2) k2)
theorem pe_andV {m n : M T} (h1 : PE X a (tD (gx X) W m)) (h2 : PE X (.BoolOp .And (b :: es) pos) (tD (gx X) W n)) : PE X (.BoolOp .And (a :: b :: es) pos) (tD (gx X) W (andV m n)) :=
  pe_imp (pe_and h1 h2) fun σ H Q h => tD_B (Q := Q) h fun c F1 M1 G ts1 H1 st1 k => ⟨c, rfl, by
    cases c with
    | true => exact ⟨F1, M1, G, ts1, st1, k⟩
    | false => exact k F1 em M1 H1 _ (Same.refl _) (.z (.bl _)) st1 Dj.em_l⟩
theorem pe_orV {m n : M T} (h1 : PE X a (tD (gx X) W m)) (h2 : PE X (.BoolOp .Or (b :: es) pos) (tD (gx X) W n)) : PE X (.BoolOp .Or (a :: b :: es) pos) (tD (gx X) W (orV m n)) :=
  pe_imp (pe_or h1 h2) fun σ H Q h => tD_B (Q := Q) h fun c F1 M1 G ts1 H1 st1 k => ⟨c, rfl, by
    cases c with
    | false => exact ⟨F1, M1, G, ts1, st1, k⟩
    | true => exact k F1 em M1 H1 _ (Same.refl _) (.z (.bl _)) st1 Dj.em_l⟩
def notV (m : M T) : M T := m >>= asB >>= fun b => M.ret (.z (.bl !b))
theorem pe_notV {m : M T} (h1 : PE X a (tD (gx X) W m)) : PE X (.UnaryOp .Not a pos) (tD (gx X) W (notV m)) :=
  pe_imp (pe_not h1) fun σ H Q h => tD_B (Q := Q) h fun c F1 M1 G ts1 H1 st1 k => ⟨c, rfl, k F1 em M1 H1 _ (Same.refl _) (.z (.bl _)) st1 Dj.em_l⟩
def ifV (c : M Bool) (m n : M T) : M T := c >>= fun b => if b = true then m else n
theorem pe_ifV {c : Expr} {mc : M Bool} {m n : M T} (h0 : PT X c (tB (gx X) W mc)) (h1 : PE X a (tD (gx X) W m)) (h2 : PE X b (tD (gx X) W n)) : PE X (.IfExp c a b pos) (tD (gx X) W (ifV mc m n)) :=
  pe_imp (pe_ifExp h0 h1 h2) fun σ H Q ⟨F, Mm, G, ts, st, k⟩ => by
    refine tB_then (K := KD (gx X) W F G σ Q) st id (fun _ _ z => z) k fun c ts1 _ k1 F1 M1 H1 s1 st1 => ?_
    cases c with
    | true => exact ⟨F1, M1, G, ts1, st1, KD.mono s1 k1⟩
    | false => exact ⟨F1, M1, G, ts1, st1, KD.mono s1 k1⟩
/-- is None -/
theorem pe_isN' {j : Nat} {p' : Pos} (ha : PE X a (tV (gx X) W ma)) : PE X (.Compare a [.Is] [.Constant .none j p'] pos) (tD (gx X) W (ma >>= fun d => M.ret (.z (.bl (isNonD d))))) :=
  pe_imp (pe_cmp (pc_isN ha) rfl) fun σ H Q h => by
    obtain ⟨F, Mm, G, ts, st, k⟩ := h
    refine tV_then (K := KD (gx X) W F G σ Q) st id (fun _ _ z => z) k fun d ts1 _ k1 F1 M1 H1 v s1 r1 st1 => ?_
    rw [r1.isNon]
    exact k1 F1 em M1 H1 _ s1 (.z (.bl _)) st1 Dj.em_l
theorem pe_notN' {j : Nat} {p' : Pos} (ha : PE X a (tV (gx X) W ma)) : PE X (.Compare a [.IsNot] [.Constant .none j p'] pos) (tD (gx X) W (ma >>= fun d => M.ret (.z (.bl !isNonD d)))) :=
  pe_imp (pe_cmp (pc_notN ha) rfl) fun σ H Q h => by
    obtain ⟨F, Mm, G, ts, st, k⟩ := h
    refine tV_then (K := KD (gx X) W F G σ Q) st id (fun _ _ z => z) k fun d ts1 _ k1 F1 M1 H1 v s1 r1 st1 => ?_
    rw [r1.isNon]
    exact k1 F1 em M1 H1 _ s1 (.z (.bl _)) st1 Dj.em_l
theorem pt_isN' {j : Nat} {p' : Pos} (ha : PE X a (tV (gx X) W ma)) : PT X (.Compare a [.Is] [.Constant .none j p'] pos) (tB (gx X) W (ma >>= fun d => M.ret (isNonD d))) :=
  pt_imp (pt_cmp (pc_isN ha) rfl) fun σ H Q h => by
    obtain ⟨F, Mm, G, ts, st, k⟩ := h
    refine tV_then (K := KB (gx X) W F G σ Q) st id (fun _ _ z => z) k fun d ts1 _ k1 F1 M1 H1 v s1 r1 st1 => ?_
    rw [r1.isNon]
    exact ⟨_, rfl, k1 F1 M1 H1 s1 st1⟩
theorem pt_notN' {j : Nat} {p' : Pos} (ha : PE X a (tV (gx X) W ma)) : PT X (.Compare a [.IsNot] [.Constant .none j p'] pos) (tB (gx X) W (ma >>= fun d => M.ret !isNonD d)) :=
  pt_imp (pt_cmp (pc_notN ha) rfl) fun σ H Q h => by
    obtain ⟨F, Mm, G, ts, st, k⟩ := h
    refine tV_then (K := KB (gx X) W F G σ Q) st id (fun _ _ z => z) k fun d ts1 _ k1 F1 M1 H1 v s1 r1 st1 => ?_
    rw [r1.isNon]
    exact ⟨_, rfl, k1 F1 M1 H1 s1 st1⟩
end

/-! ### rows of arguments -/
section
variable {X : Cx} {W : WX} {a b e : Expr} {es : List Expr} {pos p : Pos}
def KL (g : Gx) (W : WX) (F G : Hp) (σ : L2.St) (tks : List (Option Nat)) (Q : List V → Hp → Prop) (r : R (List T)) : Prop := match r with
  | .bad => False
  | .ok tl ts' => ∀ F' Mv M' H' vs, Same F F' → ROs g F' Mv vs tl → Sta g F' M' (jn Mv G) H' σ ts' → Dj Mv G → tks.length = vs.length → (∀ (k i : Nat) v, tks[k]? = some (some i) → vs[k]? = some v → σ[i]? = some (some v)) → Q vs H'
  | .ex c ts' => KX g W F G σ c ts'
def tAr (g : Gx) (W : WX) (tks : List (Option Nat)) (m : M (List T)) : TA := fun σ H Q => ∃ F Mm G ts, Sta g F Mm G H σ ts ∧ KL g W F G σ tks Q (m ts)
theorem jn_swap {A B C : Hp} (d : Dj A B) : jn B (jn A C) = jn (jn A B) C := by
  funext a
  unfold jn
  rcases d a with q | q <;> rw [q] <;> cases A a <;> cases B a <;> rfl
theorem pa_arNil : PA X [] (tAr (gx X) W [] (M.ret [])) := ⟨fun pos pins s σ H Q I h => pa_nil.run pos pins s σ H Q I (by
  obtain ⟨F, Mm, G, ts, st, k⟩ := h
  exact k F em Mm H [] (Same.refl _) .nil st Dj.em_l rfl (fun k i v h => by simp at h))⟩
def argEx (m : M T) (ms : M (List T)) : M (List T) := m >>= fun t => ms >>= fun tl => M.ret (t :: tl)
def live (i : Nat) (ts : List T) : Bool := match ts[i]? with
  | some .gone => false
  | some _ => true
  | none => false
def argTk (i : Nat) (ms : M (List T)) : M (List T) := fun ts => if live i ts = true then (ms >>= fun tl => mv i >>= fun t => M.ret (t :: tl)) ts else .bad
theorem pa_imp {t t' : TA} (h : PA X es t) (i : ∀ σ H Q, t' σ H Q → t σ H Q) : PA X es t' := ⟨fun pos pins s σ H Q I q => h.run pos pins s σ H Q I (i σ H Q q)⟩
theorem pa_arEx {m : M T} {ms : M (List T)} {tks : List (Option Nat)} (h1 : PE X e (tD (gx X) W m)) (h2 : PA X es (tAr (gx X) W tks ms)) (n : nst e = true) : PA X (e :: es) (tAr (gx X) W (none :: tks) (argEx m ms)) :=
  pa_imp (pa_cons h1 h2 (star_of n _ _)) fun σ H Q ⟨F, Mm, G, ts, st, k⟩ => by
    refine tD_then (K := KL (gx X) W F G σ (none :: tks) Q) st id (fun _ _ z => z) k fun t ts1 _ k1 F1 Mv M1 H1 v s1 r st1 dj => ?_
    refine ⟨F1, M1, jn Mv G, ts1, st1, ?_⟩
    cases q : ms ts1 with
    | bad => rw [bind_bad q] at k1; exact k1
    | ex c ts' =>
      rw [bind_ex q] at k1
      intro F' M' H' C s2 st2 hC
      obtain ⟨s3, st3⟩ := st2.freeze dj
      exact k1 _ M' H' C ((s1.trans s2).trans s3) st3 hC
    | ok tl ts2 =>
      rw [bind_ok q] at k1
      intro F2 Mw M2 H2 vs s2 r2 st2 dj2 hl hk
      have d12 : Dj Mv Mw := (dj2.sub (Same.refl _) jn_l).symm
      have dwG : Dj Mw G := dj2.sub (Same.refl _) (jn_r dj)
      rw [jn_swap d12] at st2
      refine k1 F2 (jn Mv Mw) M2 H2 (v :: vs) (s1.trans s2) (.cons (r.mono s2) r2 jn_l (jn_r d12) d12) st2 (dj_jn dj dwG) (by simp [hl]) fun k i u h1 h2 => ?_
      cases k with
      | zero => simp at h1
      | succ k => exact hk k i u (by simpa using h1) (by simpa using h2)
theorem pa_arTk {i : Nat} {x : Str} {ms : M (List T)} {tks : List (Option Nat)} (hN : X.N[i]? = some x) (hv : Vis X.env.scope x) (hd : (x == ("__debug__" : Str)) = false) (hcd : (x == ("__classdict__" : Str)) = false)
    (h2 : PA X es (tAr (gx X) W tks ms)) : PA X (.Name x p :: es) (tAr (gx X) W (some i :: tks) (argTk i ms)) :=
  pa_imp (pa_cons (pe_var hN hv hd hcd) h2 rfl) fun σ H Q ⟨F, Mm, G, ts, st, k⟩ => by
    unfold argTk at k
    split at k
    · rename_i hl
      have : ∃ t, ts[i]? = some t ∧ t ≠ .gone := by
        unfold live at hl
        cases q : ts[i]? with
        | none => rw [q] at hl; cases hl
        | some t => rw [q] at hl; exact ⟨t, rfl, by rintro rfl; cases hl⟩
      obtain ⟨t, q, n⟩ := this
      obtain ⟨v, _, _, _, e1, _⟩ := st.slot q n
      refine ⟨v, e1, F, Mm, G, ts, st, ?_⟩
      cases q2 : ms ts with
      | bad => rw [bind_bad q2] at k; exact k
      | ex c ts' => rw [bind_ex q2] at k; exact k
      | ok tl ts1 =>
        rw [bind_ok q2] at k
        intro F1 Mv M1 H1 vs s1 r1 st1 dj hl1 hk
        have own : ∀ t1 : T, ts1[i]? = some t1 → t1 ≠ .gone → KL (gx X) W F G σ (some i :: tks) Q (.ok (t1 :: tl) (ts1.set i .gone)) → Q (v :: vs) H1 := fun t1 e2 n2 k2 => by
          obtain ⟨u, A, B, e3, r3, st3, d3⟩ := st1.take e2 n2
          rw [e1] at e3
          cases e3
          have dAv : Dj Mv A := (d3.sub (Same.refl _) jn_l).symm
          have dAG : Dj A G := d3.sub (Same.refl _) (jn_r dj)
          have e4 : jn A (jn Mv G) = jn (jn Mv A) G := jn_swap dAv
          rw [e4] at st3
          refine k2 F1 (jn Mv A) B H1 (v :: vs) s1 (.cons r3 r1 (jn_r dAv) jn_l dAv.symm) st3 (dj_jn dj dAG) (by simp [hl1]) fun k j u h1 h2 => ?_
          cases k with
          | zero => simp at h1 h2; subst h1 h2; exact e1
          | succ k => exact hk k j u (by simpa using h1) (by simpa using h2)
        cases q3 : ts1[i]? with
        | none =>
          have : (mv i >>= fun t => M.ret (t :: tl)) ts1 = .bad := bind_bad (by unfold mv; rw [q3])
          rw [this] at k; exact k.elim
        | some t1 =>
          cases t1 with
          | gone =>
            have : (mv i >>= fun t => M.ret (t :: tl)) ts1 = .bad := bind_bad (by unfold mv; rw [q3])
            rw [this] at k; exact k.elim
          | z d =>
            have e5 : (mv i >>= fun t => M.ret (t :: tl)) ts1 = .ok (.z d :: tl) ts1 := bind_ok (by unfold mv; rw [q3])
            rw [e5] at k
            obtain ⟨u, A, B, ws, e3, r3, _⟩ := st1.slot q3 (fun z => nomatch z)
            rw [e1] at e3
            cases e3
            cases r3 with
            | z r3 =>
              refine k F1 Mv M1 H1 (v :: vs) s1 (.cons (M1 := em) (.z r3) r1 Same.empty (Same.refl _) Dj.em_l) st1 dj (by simp [hl1]) fun k j u h1 h2 => ?_
              cases k with
              | zero => simp at h1 h2; subst h1 h2; exact e1
              | succ k => exact hk k j u (by simpa using h1) (by simpa using h2)
          | l ts' =>
            have e5 : (mv i >>= fun t => M.ret (t :: tl)) ts1 = .ok (.l ts' :: tl) (ts1.set i .gone) := bind_ok (by unfold mv; rw [q3])
            rw [e5] at k; exact own _ q3 (fun z => nomatch z) k
          | dk ts' =>
            have e5 : (mv i >>= fun t => M.ret (t :: tl)) ts1 = .ok (.dk ts' :: tl) (ts1.set i .gone) := bind_ok (by unfold mv; rw [q3])
            rw [e5] at k; exact own _ q3 (fun z => nomatch z) k
          | dt ts' =>
            have e5 : (mv i >>= fun t => M.ret (t :: tl)) ts1 = .ok (.dt ts' :: tl) (ts1.set i .gone) := bind_ok (by unfold mv; rw [q3])
            rw [e5] at k; exact own _ q3 (fun z => nomatch z) k
          | ob c ts' =>
            have e5 : (mv i >>= fun t => M.ret (t :: tl)) ts1 = .ok (.ob c ts' :: tl) (ts1.set i .gone) := bind_ok (by unfold mv; rw [q3])
            rw [e5] at k; exact own _ q3 (fun z => nomatch z) k
    · exact k.elim
/-! ### displays -/
def tupM (ms : M (List T)) : M T := ms >>= fun tl => match T.fzs tl with
  | some ds => if ds.length ≤ lim then M.ret (.z (.tup ds)) else stop
  | none => stop
theorem pe_tupM {ms : M (List T)} {tks : List (Option Nat)} {k : Nat} (h : PA X es (tAr (gx X) W tks ms)) : PE X (.Tuple es k pos) (tD (gx X) W (tupM ms)) :=
  pe_imp (pe_tup h) fun σ H Q ⟨F, Mm, G, ts, st, k⟩ => by
    refine ⟨F, Mm, G, ts, st, ?_⟩
    cases q : ms ts with
    | bad => rw [show tupM ms ts = .bad from bind_bad q] at k; exact k
    | ex c ts' => rw [show tupM ms ts = .ex c ts' from bind_ex q] at k; exact k
    | ok tl ts1 =>
      have e0 : tupM ms ts = _ := bind_ok q
      rw [e0] at k
      intro F1 Mv M1 H1 vs s1 r1 st1 dj _ _
      cases q2 : T.fzs tl with
      | none => rw [q2] at k; exact k.elim
      | some ds =>
        simp only [q2] at k
        by_cases hl : ds.length ≤ lim
        · rw [if_pos hl] at k
          obtain ⟨s2, st2⟩ := st1.freeze dj
          have ra : RpAll (gx X) (jn F1 Mv) vs ds := r1.fz q2 s2 (jn_r (st1.hc.fg.sub (Same.refl _) jn_l))
          refine ⟨by rw [ra.length]; exact lim_le hl, fun p hp => ?_⟩
          obtain ⟨s3, st3⟩ := st2.newF (o := .tup vs) hp
          exact k _ em M1 _ _ ((s1.trans s2).trans s3) (.z (.tup upd_same (ra.mono s3))) st3 Dj.em_l
        · rw [if_neg hl] at k; exact k.elim
def lstM (ms : M (List T)) : M T := ms >>= fun tl => if tl.length ≤ lim then M.ret (.l tl) else stop
theorem pe_lstM {ms : M (List T)} {tks : List (Option Nat)} (h : PA X es (tAr (gx X) W tks ms)) : PE X (.List es pos) (tD (gx X) W (lstM ms)) :=
  pe_imp (pe_lst h) fun σ H Q ⟨F, Mm, G, ts, st, k⟩ => by
    refine ⟨F, Mm, G, ts, st, ?_⟩
    cases q : ms ts with
    | bad => rw [show lstM ms ts = .bad from bind_bad q] at k; exact k
    | ex c ts' => rw [show lstM ms ts = .ex c ts' from bind_ex q] at k; exact k
    | ok tl ts1 =>
      have e0 : lstM ms ts = _ := bind_ok q
      rw [e0] at k
      intro F1 Mv M1 H1 vs s1 r1 st1 dj _ _
      by_cases hl : tl.length ≤ lim
      · rw [if_pos hl] at k
        refine ⟨by rw [r1.length]; exact lim_le hl, fun p hp => ?_⟩
        have hc := st1.hc
        have vp : Mv p = none := (jn_l.trans hc.gh).free hp
        obtain ⟨st2, dj2⟩ := st1.newO (o := .lst vs) hp
        have d1 : Dj Mv (upd em p (.lst vs)) := (dj_upd_l Dj.em_l vp).symm
        rw [jn_swap d1] at st2
        refine k F1 (jn Mv (upd em p (.lst vs))) M1 _ _ s1 (.l (M' := Mv) (jn_r d1 _ _ upd_same) jn_l vp r1) st2 (dj_jn dj (dj2.sub (Same.refl _) (jn_r dj)))
      · rw [if_neg hl] at k; exact k.elim
/-! ### calls of the text's own defs -/
def spF (g : Gx) (n : Nat) (f : List T → R T) : Sp := fun vs H Q E => vs.length = n ∧ ∃ F Mm G tl, Hc F Mm G H ∧ ROs g F Mm vs tl ∧ match f tl with
  | .bad => False
  | .ok t fins => ∀ F' Mr M' H' v, Same F F' → RO g F' Mr v t → ROs g F' M' vs fins → Hc F' M' (jn Mr G) H' → Dj Mr G → Q v H'
  | .ex c fins => ∀ F' M' H' C, Same F F' → ROs g F' M' vs fins → Hc F' M' G H' → g.mg c = some (.ref C) → E (.ref C) none H'
def T.isZ : T → Bool
  | .z _ => true
  | _ => false
def give1 (o : Option Nat) (t fin : T) (ts : List T) : List T := match o with
  | some i => if t.isZ = true then ts else ts.set i fin
  | none => ts
def giveB : List (Option Nat) → List T → List T → List T → List T
  | [], _, _, ts => ts
  | _ :: _, [], _, ts => ts
  | _ :: _, _ :: _, [], ts => ts
  | o :: tks, t :: tl, fin :: fins, ts => giveB tks tl fins (give1 o t fin ts)
def callM (f : List T → R T) (tks : List (Option Nat)) (ms : M (List T)) : M T := fun ts => match ms ts with
  | .ok tl ts1 => match f tl with
    | .ok t fins => .ok t (giveB tks tl fins ts1)
    | .ex c fins => .ex c (giveB tks tl fins ts1)
    | .bad => .bad
  | .ex c ts1 => .ex c ts1
  | .bad => .bad
theorem giveB_length : ∀ (tks : List (Option Nat)) (tl fins ts : List T), (giveB tks tl fins ts).length = ts.length
  | [], _, _, _ => rfl
  | _ :: _, [], _, _ => rfl
  | _ :: _, _ :: _, [], _ => rfl
  | o :: tks, t :: tl, f :: fins, ts => by
    rw [giveB, giveB_length tks]
    unfold give1
    split
    · split
      · rfl
      · rw [List.length_set]
    · rfl
theorem give_ok {g : Gx} {F : Hp} {σ : L2.St} : ∀ (tks : List (Option Nat)) (tl fins : List T) (us : List V) (M2 : Hp), ROs g F M2 us fins → (∀ (k i : Nat) v, tks[k]? = some (some i) → us[k]? = some v → σ[i]? = some (some v)) →
    ∀ (ts : List T) (vs : List V) (M1 : Hp), ROs g F M1 vs ts → (∀ (i : Nat) (v : V) (t : T), vs[i]? = some v → ts[i]? = some t → t = .gone ∨ σ[i]? = some (some v)) → Dj M1 M2 →
      ∃ vs', ROs g F (jn M1 M2) vs' (giveB tks tl fins ts) ∧ ∀ (i : Nat) (v : V) (t : T), vs'[i]? = some v → (giveB tks tl fins ts)[i]? = some t → t = .gone ∨ σ[i]? = some (some v)
  | [], tl, fins, us, M2, h, hk, ts, vs, M1, r, q, d => ⟨vs, r.ext jn_l, q⟩
  | _ :: _, [], fins, us, M2, h, hk, ts, vs, M1, r, q, d => ⟨vs, r.ext jn_l, q⟩
  | _ :: _, _ :: _, [], us, M2, h, hk, ts, vs, M1, r, q, d => ⟨vs, r.ext jn_l, q⟩
  | o :: tks, t :: tl, fin :: fins, u :: us, M2, .cons (M1 := A) (M2 := B) h1 h2 h3 h4 h5, hk, ts, vs, M1, r, q, d => by
    have hk' : ∀ (k i : Nat) v, tks[k]? = some (some i) → us[k]? = some v → σ[i]? = some (some v) := fun k i v a b => hk (k + 1) i v (by simpa using a) (by simpa using b)
    have dA : Dj M1 A := d.sub (Same.refl _) h3
    have dB : Dj M1 B := d.sub (Same.refl _) h4
    have stay : ∃ vs' , ROs g F (jn M1 A) vs' ts ∧ ∀ (k : Nat) (v : V) (t : T), vs'[k]? = some v → ts[k]? = some t → t = .gone ∨ σ[k]? = some (some v) := ⟨vs, r.ext jn_l, q⟩
    have put : ∃ vs' , ROs g F (jn M1 A) vs' (give1 o t fin ts) ∧ ∀ (k : Nat) (v : V) (t1 : T), vs'[k]? = some v → (give1 o t fin ts)[k]? = some t1 → t1 = .gone ∨ σ[k]? = some (some v) := by
      unfold give1
      cases o with
      | none => exact stay
      | some i =>
        have ei : σ[i]? = some (some u) := hk 0 i u rfl rfl
        simp only
        split
        · exact stay
        · cases e : ts[i]? with
          | none =>
            have : ts.set i fin = ts := List.set_eq_of_length_le (List.getElem?_eq_none_iff.mp e)
            rw [this]; exact stay
          | some t0 =>
            obtain ⟨w, C, E, e1, _, s1, s2, dd, back⟩ := r.pick e
            exact ⟨vs.set i u, back F A u fin (jn M1 A) (Same.refl _) h1 (dA.symm.sub (Same.refl _) s2) (jn_r dA) (s2.trans jn_l), set_slots q ei⟩
    obtain ⟨vs1, r1, q1⟩ := put
    obtain ⟨vs', r', q'⟩ := give_ok tks tl fins us B h2 hk' (give1 o t fin ts) vs1 (jn M1 A) r1 q1 (dj_jn dB h5)
    exact ⟨vs', r'.ext (jn_sub (jn_sub jn_l (h3.trans (jn_r d))) (h4.trans (jn_r d))), q'⟩
/-- the call, by the reading of its arguments -/
theorem call_ok {f : List T → R T} {tks : List (Option Nat)} {ms : M (List T)} {σ : L2.St} {H : Hp} {Q : VK} {n : Nat} (hn : tks.length = n) (h : tD (gx X) W (callM f tks ms) σ H Q) :
    tAr (gx X) W tks ms σ H fun vs H1 => spF (gx X) n f vs H1 Q (WE W σ) := by
  obtain ⟨F, Mm, G, ts, st, k⟩ := h
  refine ⟨F, Mm, G, ts, st, ?_⟩
  change KD (gx X) W F G σ Q (callM f tks ms ts) at k
  unfold callM at k
  cases q : ms ts with
  | bad => rw [q] at k; exact k
  | ex c ts1 => rw [q] at k; exact k
  | ok tl ts1 =>
    simp only [q] at k
    intro F1 Mv M1 H1 vs s1 r1 st1 dj hl hk
    have hc := st1.hc
    have dM1v : Dj M1 Mv := hc.mg.sub (Same.refl _) jn_l
    have dM1G : Dj M1 G := hc.mg.sub (Same.refl _) (jn_r dj)
    have dF1v : Dj F1 Mv := hc.fg.sub (Same.refl _) jn_l
    have dF1G : Dj F1 G := hc.fg.sub (Same.refl _) (jn_r dj)
    obtain ⟨ws, rw', qw⟩ := st1.vs
    refine ⟨hl.symm.trans hn, F1, Mv, jn M1 G, tl, ⟨hc.fh, jn_l.trans hc.gh, jn_sub hc.mh ((jn_r dj).trans hc.gh), dF1v, dj_jn_r hc.fm dF1G, dj_jn_r dM1v.symm dj, hc.ft⟩, r1, ?_⟩
    cases q2 : f tl with
    | bad => simp only [q2] at k; exact k
    | ok t fins =>
      simp only [q2] at k
      intro F2 Mr M2 H2 v s2 r2 rf hc2 dr
      have dr1 : Dj Mr M1 := dr.sub (Same.refl _) jn_l
      have drG : Dj Mr G := dr.sub (Same.refl _) (jn_r dM1G)
      have d2r : Dj M2 Mr := hc2.mg.sub (Same.refl _) jn_l
      have d21 : Dj M2 M1 := hc2.mg.sub (Same.refl _) (jn_l.trans (jn_r dr))
      have d2G : Dj M2 G := hc2.mg.sub (Same.refl _) ((jn_r dM1G).trans (jn_r dr))
      have hM1 : Same M1 H2 := (jn_l.trans (jn_r dr)).trans hc2.gh
      have hG : Same G H2 := ((jn_r dM1G).trans (jn_r dr)).trans hc2.gh
      obtain ⟨vs', r', q'⟩ := give_ok tks tl fins vs M2 rf hk ts1 ws M1 (rw'.mono s2) qw d21.symm
      refine k F2 Mr (jn M1 M2) H2 v (s1.trans s2) r2 ⟨?_, ⟨vs', r', q'⟩, ?_⟩ drG
      · exact ⟨hc2.fh, jn_sub hM1 hc2.mh, jn_sub (jn_l.trans hc2.gh) hG, dj_jn_r (hc2.fg.sub (Same.refl _) (jn_l.trans (jn_r dr))) hc2.fm, dj_jn_r (hc2.fg.sub (Same.refl _) jn_l) (hc2.fg.sub (Same.refl _) ((jn_r dM1G).trans (jn_r dr))),
          dj_jn (dj_jn_r dr1.symm dM1G) (dj_jn_r d2r d2G), hc2.ft⟩
      · rw [giveB_length]; exact st1.len
    | ex c fins =>
      simp only [q2] at k
      intro F2 M2 H2 C s2 rf hc2 hC
      have d21 : Dj M2 M1 := hc2.mg.sub (Same.refl _) jn_l
      have d2G : Dj M2 G := hc2.mg.sub (Same.refl _) (jn_r dM1G)
      obtain ⟨vs', r', q'⟩ := give_ok tks tl fins vs M2 rf hk ts1 ws M1 (rw'.mono s2) qw d21.symm
      refine k F2 (jn M1 M2) H2 C (s1.trans s2) ⟨?_, ⟨vs', r', q'⟩, ?_⟩ hC
      · exact ⟨hc2.fh, jn_sub (jn_l.trans hc2.gh) hc2.mh, (jn_r dM1G).trans hc2.gh, dj_jn_r (hc2.fg.sub (Same.refl _) jn_l) hc2.fm, hc2.fg.sub (Same.refl _) (jn_r dM1G), dj_jn dM1G d2G, hc2.ft⟩
      · rw [giveB_length]; exact st1.len
/-- f(e, ..) -/
theorem pe_callM {k : Nat} {fa : Addr} {fd : FuncData} {ps : List Str} {f : List T → R T} {x : Str} {tks : List (Option Nat)} {ms : M (List T)}
    (F : FnOk X.prog X.w X.K X.mg X.base (L2.CX X.prog X.w) k fa fd ps (spF (gx X) ps.length f)) (hr : Room k X.A) (hg : Gl X x) (hm : X.mg x = some (.ref fa)) (hk : PySem.W.keepIn X.K (.ref fa) = true) (hb : Binds X.K fd ps [])
    (tk : Takes X W) (ha : PA X (e :: es) (tAr (gx X) W tks ms)) (hl : tks.length = ps.length) (hd : (x == ("__debug__" : Str)) = false) (n : (e :: es).all nst = true) :
    PE X (.Call (.Name x p) (e :: es) [] pos) (tD (gx X) W (callM f tks ms)) := by
  rw [List.all_cons, Bool.and_eq_true] at n
  exact pe_imp (pe_callS F hr hg hm hk hb (fun σ => passAt tk σ) ha hd (star_of n.1 _ _) (star_all n.2 _ _)) fun σ H Q h => call_ok hl h
end
end Ar
/-! ArH: statements and blocks. -/
namespace Ar
open PySem PySem.Spec PyProof.Rows L2

inductive RS where
  | nx (ts : List T) | rt (t : T) (ts : List T) | bk (ts : List T) | ct (ts : List T) | ex (c : Str) (ts : List T) | bad
abbrev S := List T → RS
def Pin (bs : List Nat) (σ σ' : L2.St) : Prop := ∀ i ∈ bs, σ'[i]? = σ[i]?
theorem Pin.refl {bs : List Nat} {σ : L2.St} : Pin bs σ σ := fun _ _ => rfl
theorem Pin.trans {bs : List Nat} {σ σ1 σ2 : L2.St} (a : Pin bs σ σ1) (b : Pin bs σ1 σ2) : Pin bs σ σ2 := fun i h => (b i h).trans (a i h)
theorem Pin.set {bs : List Nat} {σ : L2.St} {i : Nat} {v : Option V} (h : i ∉ bs) : Pin bs σ (σ.set i v) := fun k hk => List.getElem?_set_ne (by intro e; subst e; exact h hk)
def KS (g : Gx) (W : WX) (bs : List Nat) (F G : Hp) (σ : L2.St) (D : Ends) (r : RS) : Prop := match r with
  | .bad => False
  | .nx ts' => ∀ F' M' H' σ', Same F F' → Sta g F' M' G H' σ' ts' → Pin bs σ σ' → D.nx σ' H'
  | .bk ts' => ∀ F' M' H' σ', Same F F' → Sta g F' M' G H' σ' ts' → Pin bs σ σ' → D.bk σ' H'
  | .ct ts' => ∀ F' M' H' σ', Same F F' → Sta g F' M' G H' σ' ts' → Pin bs σ σ' → D.ct σ' H'
  | .rt t ts' => ∀ F' Mv M' H' σ' v, Same F F' → RO g F' Mv v t → Sta g F' M' (jn Mv G) H' σ' ts' → Dj Mv G → Pin bs σ σ' → D.rt v H'
  | .ex c ts' => ∀ F' M' H' σ' C, Same F F' → Sta g F' M' G H' σ' ts' → Pin bs σ σ' → g.mg c = some (.ref C) → W (.ref C) none σ' H'
def tS (g : Gx) (W : WX) (bs : List Nat) (m : S) : TS := fun D σ H => ∃ F Mm G ts, Sta g F Mm G H σ ts ∧ KS g W bs F G σ D (m ts)
/-- an expression, then what is done with it -/
def bindS {α : Type} (m : M α) (f : α → S) : S := fun ts => match m ts with
  | .ok a ts' => f a ts'
  | .ex c ts' => .ex c ts'
  | .bad => .bad
def sq (m n : S) : S := fun ts => match m ts with
  | .nx ts' => n ts'
  | r => r
theorem ps_imp {X : Cx} {st : Stmt} {t t' : TS} (h : PS X st t) (i : ∀ D σ H, t' D σ H → t D σ H) : PS X st t' := ⟨fun pins s σ H D I q => h.run pins s σ H D I (i D σ H q)⟩
theorem pss_imp {X : Cx} {st : List Stmt} {t t' : TS} (h : PSs X st t) (i : ∀ D σ H, t' D σ H → t D σ H) : PSs X st t' := ⟨fun pins s σ H D I q => h.run pins s σ H D I (i D σ H q)⟩
section
variable {g : Gx} {W : WX} {bs : List Nat} {F F1 G G1 : Hp} {σ σ1 : L2.St} {D : Ends} {r : RS}
theorem KS.mono (h : KS g W bs F G σ D r) (s : Same F F1) (p : Pin bs σ σ1) : KS g W bs F1 G σ1 D r := by
  cases r with
  | bad => exact h
  | nx ts => exact fun F' M' H' σ' s1 st q => h F' M' H' σ' (s.trans s1) st (p.trans q)
  | bk ts => exact fun F' M' H' σ' s1 st q => h F' M' H' σ' (s.trans s1) st (p.trans q)
  | ct ts => exact fun F' M' H' σ' s1 st q => h F' M' H' σ' (s.trans s1) st (p.trans q)
  | rt t ts => exact fun F' Mv M' H' σ' v s1 r st d q => h F' Mv M' H' σ' v (s.trans s1) r st d (p.trans q)
  | ex c ts => exact fun F' M' H' σ' C s1 st q => h F' M' H' σ' C (s.trans s1) st (p.trans q)
theorem KS.kx {c : Str} {ts : List T} (h : KS g W bs F G σ D (.ex c ts)) : KX g W F G σ c ts := fun F' M' H' C s st e => h F' M' H' σ C s st Pin.refl e
theorem tD_S {m : M T} {f : T → S} {Mm H : Hp} {ts : List T} {Q : VK} (st : Sta g F Mm G H σ ts) (h : KS g W bs F G σ D (bindS m f ts))
    (go : ∀ t ts', m ts = .ok t ts' → KS g W bs F G σ D (f t ts') → ∀ F' Mv M' H' v, Same F F' → RO g F' Mv v t → Sta g F' M' (jn Mv G) H' σ ts' → Dj Mv G → Q v H') : tD g W m σ H Q := by
  refine ⟨F, Mm, G, ts, st, ?_⟩
  unfold bindS at h
  cases e : m ts with
  | bad => rw [e] at h; exact h
  | ex c ts' => rw [e] at h; exact h.kx
  | ok t ts' => rw [e] at h; exact go t ts' e h
theorem tZ_S' {m : M Ar.D} {f : Ar.D → S} {Mm H : Hp} {ts : List T} {Q : VK} (st : Sta g F Mm G H σ ts) (h : KS g W bs F G σ D (bindS m f ts))
    (go : ∀ t ts', m ts = .ok t ts' → KS g W bs F G σ D (f t ts') → ∀ F' M' H' v, Same F F' → Rp g F' v t → Sta g F' M' G H' σ ts' → Q v H') : tZ g W m σ H Q := by
  refine ⟨F, Mm, G, ts, st, ?_⟩
  unfold bindS at h
  cases e : m ts with
  | bad => rw [e] at h; exact h
  | ex c ts' => rw [e] at h; exact h.kx
  | ok t ts' => rw [e] at h; exact go t ts' e h
theorem tB_S {m : M Bool} {f : Bool → S} {Mm H : Hp} {ts : List T} {Q : Bool → Hp → Prop} (st : Sta g F Mm G H σ ts) (h : KS g W bs F G σ D (bindS m f ts))
    (go : ∀ t ts', m ts = .ok t ts' → KS g W bs F G σ D (f t ts') → ∀ F' M' H', Same F F' → Sta g F' M' G H' σ ts' → Q t H') : tB g W m σ H Q := by
  refine ⟨F, Mm, G, ts, st, ?_⟩
  unfold bindS at h
  cases e : m ts with
  | bad => rw [e] at h; exact h
  | ex c ts' => rw [e] at h; exact h.kx
  | ok t ts' => rw [e] at h; exact go t ts' e h
/-- a slot is stored -/
theorem Sta.assign {Mm Mv H : Hp} {ts : List T} {i : Nat} {v : V} {t : T} (st : Sta g F Mm (jn Mv G) H σ ts) (r : RO g F Mv v t) (d : Dj Mv G) (hi : i < ts.length) :
    ∃ M', Sta g F M' G H (σ.set i (some v)) (ts.set i t) := by
  obtain ⟨vs, rs, q⟩ := st.vs
  have hc := st.hc
  have e : ts[i]? = some ts[i] := List.getElem?_eq_getElem hi
  obtain ⟨w, M1, M2, e1, _, s1, s2, dd, back⟩ := rs.pick e
  have dv2 : Dj Mv M2 := (hc.mg.sub s2 jn_l).symm
  refine ⟨jn Mv M2, ⟨jn_sub hc.fh hc.fh |> fun _ => hc.fh, jn_sub (jn_l.trans hc.gh) (s2.trans hc.mh), (jn_r d).trans hc.gh, dj_jn_r (hc.fg.sub (Same.refl _) jn_l) (hc.fm.sub (Same.refl _) s2), hc.fg.sub (Same.refl _) (jn_r d), dj_jn d (hc.mg.sub s2 (jn_r d)), hc.ft⟩, ⟨_, back F Mv v t (jn Mv M2) (Same.refl _) r dv2 jn_l (jn_r dv2), ?_⟩, by rw [List.length_set, List.length_set]; exact st.len⟩
  intro k u t' h1 h2
  by_cases hk : i = k
  · subst hk
    have l1 : i < vs.length := by rw [rs.length]; exact hi
    rw [List.getElem?_set_self l1] at h1
    cases h1
    exact .inr (List.getElem?_set_self (by rw [st.len]; exact hi))
  · rw [List.getElem?_set_ne hk] at h1 h2
    rw [List.getElem?_set_ne hk]
    exact q k u t' h1 h2
theorem Sta.assignZ {Mm H : Hp} {ts : List T} {i : Nat} {v : V} {d : Ar.D} (st : Sta g F Mm G H σ ts) (r : Rp g F v d) (hi : i < ts.length) : ∃ M', Sta g F M' G H (σ.set i (some v)) (ts.set i (.z d)) :=
  Sta.assign (Mv := em) st (.z r) Dj.em_l hi
end

/-! ### blocks, if, return, raise -/
section
variable {X : Cx} {W : WX} {bs : List Nat} {e c : Expr} {st : Stmt} {rest a b : List Stmt} {pos pos' : Pos} {m n : S}
theorem pss_nilS : PSs X [] (tS (gx X) W bs RS.nx) := pss_imp pss_nil fun D σ H ⟨F, Mm, G, ts, sa, k⟩ => k F Mm H σ (Same.refl _) sa Pin.refl
theorem pss_consS (h1 : PS X st (tS (gx X) W bs m)) (h2 : PSs X rest (tS (gx X) W bs n)) : PSs X (st :: rest) (tS (gx X) W bs (sq m n)) :=
  pss_imp (pss_cons h1 h2) fun D σ H ⟨F, Mm, G, ts, sa, k⟩ => by
    refine ⟨F, Mm, G, ts, sa, ?_⟩
    unfold sq at k
    cases e : m ts with
    | nx ts' =>
      rw [e] at k
      exact fun F' M' H' σ' s st' p => ⟨F', M', G, ts', st', KS.mono k s p⟩
    | bad => rw [e] at k; exact k
    | bk ts' => rw [e] at k; exact k
    | ct ts' => rw [e] at k; exact k
    | rt t ts' => rw [e] at k; exact k
    | ex c ts' => rw [e] at k; exact k
def ifS (c : M Bool) (m n : S) : S := bindS c fun b => if b = true then m else n
theorem ps_ifS {mc : M Bool} (h0 : PT X c (tB (gx X) W mc)) (h1 : PSs X a (tS (gx X) W bs m)) (h2 : PSs X b (tS (gx X) W bs n)) : PS X (.If c a b pos) (tS (gx X) W bs (ifS mc m n)) :=
  ps_imp (ps_if h0 h1 h2) fun D σ H ⟨F, Mm, G, ts, sa, k⟩ => tB_S sa k fun b ts1 _ k1 F1 M1 H1 s1 st1 => by
    cases b with
    | true => exact ⟨F1, M1, G, ts1, st1, KS.mono k1 s1 Pin.refl⟩
    | false => exact ⟨F1, M1, G, ts1, st1, KS.mono k1 s1 Pin.refl⟩
def retS (m : M T) : S := bindS m fun t => RS.rt t
theorem ps_retS {m : M T} (h : PE X e (tD (gx X) W m)) : PS X (.Return (some e) pos) (tS (gx X) W bs (retS m)) :=
  ps_imp (ps_ret h) fun D σ H ⟨F, Mm, G, ts, sa, k⟩ => tD_S sa k fun t ts1 _ k1 F1 Mv M1 H1 v s1 r st1 dj => k1 F1 Mv M1 H1 σ v s1 r st1 dj Pin.refl
theorem ps_retNS : PS X (.Return none pos) (tS (gx X) W bs (RS.rt (.z .non))) :=
  ps_imp ps_retN fun D σ H ⟨F, Mm, G, ts, sa, k⟩ => k F em Mm H σ .non (Same.refl _) (.z .non) sa Dj.em_l Pin.refl
theorem ps_passS : PS X (.Pass pos) (tS (gx X) W bs RS.nx) := ps_imp ps_pass fun D σ H ⟨F, Mm, G, ts, sa, k⟩ => k F Mm H σ (Same.refl _) sa Pin.refl
theorem ps_docS {x : Str} {j : Nat} : PS X (.Expr (.Constant (.str x) j pos) pos') (tS (gx X) W bs RS.nx) := ps_imp ps_doc fun D σ H ⟨F, Mm, G, ts, sa, k⟩ => k F Mm H σ (Same.refl _) sa Pin.refl
theorem ps_brkS : PS X (.Break pos) (tS (gx X) W bs RS.bk) := ps_imp ps_break fun D σ H ⟨F, Mm, G, ts, sa, k⟩ => k F Mm H σ (Same.refl _) sa Pin.refl
theorem ps_ctS : PS X (.Continue pos) (tS (gx X) W bs RS.ct) := ps_imp ps_continue fun D σ H ⟨F, Mm, G, ts, sa, k⟩ => k F Mm H σ (Same.refl _) sa Pin.refl
def exprS (m : M T) : S := bindS m fun _ => RS.nx
theorem Sta.drop {g : Gx} {F Mm Mv G H : Hp} {σ : L2.St} {ts : List T} (st : Sta g F Mm (jn Mv G) H σ ts) (d : Dj Mv G) : Sta g F Mm G H σ ts := by
  have hc := st.hc
  exact ⟨⟨hc.fh, hc.mh, (jn_r d).trans hc.gh, hc.fm, hc.fg.sub (Same.refl _) (jn_r d), hc.mg.sub (Same.refl _) (jn_r d), hc.ft⟩, st.vs, st.len⟩
theorem ps_exprS {m : M T} (h : PE X e (tD (gx X) W m)) (hs : swapsWith e none pos.line X.env = pure false) : PS X (.Expr e pos) (tS (gx X) W bs (exprS m)) :=
  ps_imp (ps_expr h hs) fun D σ H ⟨F, Mm, G, ts, sa, k⟩ => tD_S sa k fun t ts1 _ k1 F1 Mv M1 H1 v s1 r st1 dj => k1 F1 M1 H1 σ s1 (st1.drop dj) Pin.refl
/-- x = e -/
def setS (i : Nat) (m : M T) : S := bindS m fun t ts => if i < ts.length then .nx (ts.set i t) else .bad
theorem ps_setS {i : Nat} {x : Str} {m : M T} (h : PE X e (tD (gx X) W m)) (hN : X.N.Nodup) (hi : X.N[i]? = some x) (hx : Loc X.env.scope x) (hs : swapsWith e (some (.Name x pos')) pos.line X.env = pure false) (hf : X.fn x = true ∨ X.env.scope.names.lookup x = some .local) (hb : i ∉ bs) :
    PS X (.Assign [.Name x pos'] e pos) (tS (gx X) W bs (setS i m)) :=
  ps_imp (ps_set hN hi hx h hs hf) fun D σ H ⟨F, Mm, G, ts, sa, k⟩ => tD_S sa k fun t ts1 _ k1 F1 Mv M1 H1 v s1 r st1 dj => by
    by_cases hl : i < ts1.length
    · rw [if_pos hl] at k1
      obtain ⟨M', st2⟩ := st1.assign r dj hl
      exact k1 F1 M' H1 _ s1 st2 (Pin.set hb)
    · rw [if_neg hl] at k1; exact k1.elim
/-- targets of frozen things -/
inductive Tg where
  | n (i : Nat) | t (l : List Tg)
def tupOf : Ar.D → Option (List Ar.D)
  | .tup ds => some ds
  | _ => none
mutual
def Tg.put : Tg → Ar.D → List T → Option (List T)
  | .n i, d, ts => if i < ts.length then some (ts.set i (.z d)) else none
  | .t l, d, ts => match tupOf d with
    | some ds => Tg.puts l ds ts
    | none => none
def Tg.puts : List Tg → List Ar.D → List T → Option (List T)
  | [], [], ts => some ts
  | g :: gs, d :: ds, ts => match Tg.put g d ts with
    | some ts' => Tg.puts gs ds ts'
    | none => none
  | _, _, _ => none
end
def gD (g : Gx) (bs : List Nat) (m : Ar.D → List T → Option (List T)) : TG := fun v σ H Q => ∃ F Mm G ts d ts', Sta g F Mm G H σ ts ∧ Rp g F v d ∧ m d ts = some ts' ∧ ∀ M' σ', Sta g F M' G H σ' ts' → Pin bs σ σ' → Q σ' H
def gDs (g : Gx) (bs : List Nat) (m : List Ar.D → List T → Option (List T)) : TGs := fun vs σ H Q => ∃ F Mm G ts ds ts', Sta g F Mm G H σ ts ∧ RpAll g F vs ds ∧ m ds ts = some ts' ∧ ∀ M' σ', Sta g F M' G H σ' ts' → Pin bs σ σ' → Q σ' H
theorem pg_imp {tg : Expr} {t t' : TG} (h : PG X tg t) (i : ∀ v σ H Q, t' v σ H Q → t v σ H Q) : PG X tg t' := ⟨fun pins s σ H v u Q I r q => h.run pins s σ H v u Q I r (i v σ H Q q)⟩
theorem pgs_imp {tg : List Expr} {t t' : TGs} (h : PGs X tg t) (i : ∀ v σ H Q, t' v σ H Q → t v σ H Q) : PGs X tg t' := ⟨fun pins s σ H v u Q I r q => h.run pins s σ H v u Q I r (i v σ H Q q)⟩
theorem pg_n {i : Nat} {x : Str} (hN : X.N.Nodup) (hi : X.N[i]? = some x) (hx : Loc X.env.scope x) (hf : X.fn x = true ∨ X.env.scope.names.lookup x = some .local) (hb : i ∉ bs) : PG X (.Name x pos) (gD (gx X) bs (Tg.n i).put) :=
  pg_imp (pg_name hN hi hx hf) fun v σ H Q ⟨F, Mm, G, ts, d, ts', sa, r, e, q⟩ => by
    rw [Tg.put] at e
    split at e
    · rename_i hl
      cases e
      obtain ⟨M', st2⟩ := sa.assignZ r hl
      exact q M' _ st2 (Pin.set hb)
    · cases e
theorem pgs_nilD : PGs X [] (gDs (gx X) bs (Tg.puts [])) := pgs_imp pgs_nil fun vs σ H Q ⟨F, Mm, G, ts, ds, ts', sa, r, e, q⟩ => by
  cases ds with
  | nil => rw [Tg.puts] at e; cases e; cases r; exact ⟨rfl, q Mm σ sa Pin.refl⟩
  | cons _ _ => rw [Tg.puts] at e; cases e; all_goals simp
theorem pgs_consD {g : Tg} {gs : List Tg} {es : List Expr} (h1 : PG X e (gD (gx X) bs g.put)) (h2 : PGs X es (gDs (gx X) bs (Tg.puts gs))) (hs : (assignEach (e :: es) X.env).map (·.2) = assign e X.env :: (assignEach es X.env).map (·.2)) :
    PGs X (e :: es) (gDs (gx X) bs (Tg.puts (g :: gs))) := pgs_imp (pgs_cons h1 h2 hs) fun vs σ H Q ⟨F, Mm, G, ts, ds, ts', sa, r, e, q⟩ => by
  cases r with
  | nil => rw [Tg.puts] at e; cases e; all_goals simp
  | @cons v vs d ds r1 r2 =>
    rw [Tg.puts] at e
    cases e1 : g.put d ts with
    | none => rw [e1] at e; cases e
    | some ts1 =>
      rw [e1] at e
      exact ⟨v, vs, rfl, F, Mm, G, ts, d, ts1, sa, r1, e1, fun M1 σ1 st1 p1 => ⟨F, M1, G, ts1, ds, ts', st1, r2, e, fun M2 σ2 st2 p2 => q M2 σ2 st2 (p1.trans p2)⟩⟩
theorem puts_length : ∀ {gs : List Tg} {ds : List Ar.D} {ts ts' : List T}, Tg.puts gs ds ts = some ts' → ds.length = gs.length
  | [], [], _, _, _ => rfl
  | g :: gs, d :: ds, ts, ts', e => by
    rw [Tg.puts] at e
    cases e1 : g.put d ts with
    | none => rw [e1] at e; cases e
    | some ts1 => rw [e1] at e; rw [List.length_cons, List.length_cons, puts_length e]
  | [], _ :: _, _, _, e => by rw [Tg.puts] at e; cases e; all_goals simp
  | _ :: _, [], _, _, e => by rw [Tg.puts] at e; cases e; all_goals simp
theorem pg_t {gs : List Tg} {es : List Expr} {k : Nat} (hc : X.calm = true) (h : PGs X es (gDs (gx X) bs (Tg.puts gs))) (hn : (assignEach es X.env).length = gs.length) (hst : (assignEach es X.env).findIdx? (·.1) = none) :
    PG X (.Tuple es k pos) (gD (gx X) bs (Tg.t gs).put) := pg_imp (pg_tup hc h hn hst) fun v σ H Q ⟨F, Mm, G, ts, d, ts', sa, r, e, q⟩ => by
  rw [Tg.put] at e
  cases d with
  | tup ds =>
    replace e : Tg.puts gs ds ts = some ts' := e
    cases r with
    | tup hs ra =>
      exact ⟨_, _, rfl, .of (sa.hc.fh _ _ hs), by rw [ra.length]; exact puts_length e, F, Mm, G, ts, ds, ts', sa, ra, e, q⟩
    | ktup hs _ ra =>
      exact ⟨_, _, rfl, Same.seqT Same.empty hs, by rw [ra.length]; exact puts_length e, F, Mm, G, ts, ds, ts', sa, ra, e, q⟩
  | _ => cases e
/-- target = e, what comes is frozen -/
def asgS (g : Tg) (m : M Ar.D) : S := bindS m fun d ts => match g.put d ts with
  | some ts' => .nx ts'
  | none => .bad
theorem ps_asgS {g : Tg} {m : M Ar.D} {tg : Expr} (h : PE X e (tZ (gx X) W m)) (hg : PG X tg (gD (gx X) bs g.put)) (hs : swapsWithSole [tg] e pos.line X.env = pure false) (hw : swappedStores [tg] e X.env = pure none)
    (h1 : (assignEach [tg] X.env).map (·.2) = [assign tg X.env]) : PS X (.Assign [tg] e pos) (tS (gx X) W bs (asgS g m)) :=
  ps_imp (ps_asg h hg hs hw h1) fun D σ H ⟨F, Mm, G, ts, sa, k⟩ => tZ_S' sa k fun d ts1 _ k1 F1 M1 H1 v s1 r st1 => by
    cases e : g.put d ts1 with
    | none => rw [e] at k1; exact k1.elim
    | some ts2 =>
      rw [e] at k1
      exact ⟨F1, M1, G, ts1, d, ts2, st1, r, e, fun M' σ' st2 p => k1 F1 M' H1 σ' s1 st2 p⟩
/-- a, b = e1, e2 -/
def parS (i j : Nat) (ma mb : M Ar.D) : S := bindS ma fun x => bindS mb fun y ts => if i < ts.length ∧ j < ts.length then .nx ((ts.set i (.z x)).set j (.z y)) else .bad
theorem ps_parS {i j : Nat} {x y : Str} {u w : Expr} {ma mb : M Ar.D} {px py pt : Pos} {kt k2 : Nat} {pt2 : Pos} (hc : X.calm = true) (hN : X.N.Nodup) (hi : X.N[i]? = some x) (hj : X.N[j]? = some y) (hij : i ≠ j)
    (hx : X.env.scope.names.lookup x = some .local) (hy : X.env.scope.names.lookup y = some .local) (ha : PE X u (tZ (gx X) W ma)) (hb : PE X w (tZ (gx X) W mb)) (n1 : nst u = true) (n2 : nst w = true)
    (hw : swappedStores [.Tuple [.Name x px, .Name y py] kt pt] (.Tuple [u, w] k2 pt2) X.env = pure (some [x, y])) (hs : swapsWithSole [.Tuple [.Name x px, .Name y py] kt pt] (.Tuple [u, w] k2 pt2) pos.line X.env = pure false) (b1 : i ∉ bs) (b2 : j ∉ bs) :
    PS X (.Assign [.Tuple [.Name x px, .Name y py] kt pt] (.Tuple [u, w] k2 pt2) pos) (tS (gx X) W bs (parS i j ma mb)) :=
  ps_imp (ps_par hc hN hi hj hij hx hy (pa_cons ha (pa_cons hb pa_nil (star_of n2 _ _)) (star_of n1 _ _)) hw hs) fun D σ H ⟨F, Mm, G, ts, sa, k⟩ =>
    tZ_S' sa k fun d ts1 _ k1 F1 M1 H1 v s1 r1 st1 => tZ_S' st1 (KS.mono k1 s1 Pin.refl) fun d2 ts2 _ k2 F2 M2 H2 v2 s2 r2 st2 => by
      refine ⟨v, v2, rfl, ?_⟩
      by_cases hl : i < ts2.length ∧ j < ts2.length
      · rw [if_pos hl] at k2
        obtain ⟨M3, st3⟩ := st2.assignZ (r1.mono s2) hl.1
        obtain ⟨M4, st4⟩ := st3.assignZ (i := j) r2 (by rw [List.length_set]; exact hl.2)
        exact k2 F2 M4 H2 _ s2 st4 ((Pin.set b1).trans (Pin.set b2))
      · rw [if_neg hl] at k2; exact k2.elim
/-- x op= e, whole numbers -/
def augS (i : Nat) (f : Int → Int → Int) (m : M Ar.D) : S := fun ts => match ts[i]? with
  | some (.z (.int a)) => bindS m (fun d ts' => match d with
    | .int b => if i < ts'.length then .nx (ts'.set i (.z (.int (f a b)))) else .bad
    | _ => .bad) ts
  | _ => .bad
theorem ps_augS' {i : Nat} {x : Str} {op : Operator} {f : Int → Int → Int} {m : M Ar.D} (h : PE X e (tZ (gx X) W m)) (ho : PIp X op (ipI f)) (hN : X.N.Nodup) (hi : X.N[i]? = some x) (hx : Loc X.env.scope x) (hf : X.fn x = true ∨ X.env.scope.names.lookup x = some .local) (hb : i ∉ bs) :
    PS X (.AugAssign (.Name x pos') op e pos) (tS (gx X) W bs (augS i f m)) :=
  ps_imp (ps_aug hN hi hx h ho hf) fun D σ H ⟨F, Mm, G, ts, sa, k⟩ => by
    unfold augS at k
    split at k
    · rename_i a q
      obtain ⟨v, M1, M2, vs, e1, r, _⟩ := sa.slot q (fun z => nomatch z)
      cases r with
      | z r =>
        cases r
        refine ⟨_, e1, tZ_S' sa k fun d ts1 _ k1 F1 M1 H1 v s1 r1 st1 => ?_⟩
        cases d with
        | int b =>
          cases r1
          simp only at k1
          by_cases hl : i < ts1.length
          · rw [if_pos hl] at k1
            obtain ⟨M3, st3⟩ := st1.assignZ (.int (f a b)) hl
            exact ⟨a, b, rfl, rfl, k1 F1 M3 H1 _ s1 st3 (Pin.set hb)⟩
          · rw [if_neg hl] at k1; exact k1.elim
        | _ => exact k1.elim
    · exact k.elim
/-- raise C('..') -/
theorem ps_raiseS {c : Str} {C : Addr} {ec : Expr} (hc : X.calm = true) (tk : Takes X W) (he : PMk X ec (fun _ H Q => Q (.ref C) none H)) (hC : X.mg c = some (.ref C)) : PS X (.Raise (some ec) none pos) (tS (gx X) W bs (RS.ex c)) :=
  ps_imp (ps_raise hc tk he) fun D σ H ⟨F, Mm, G, ts, sa, k⟩ => k F Mm H σ C (Same.refl _) sa Pin.refl hC
end
end Ar
/-! ArI: what is walked; for, while, comprehensions. -/
namespace Ar
open PySem PySem.Spec PyProof.Rows L2

/-- an iterator that yields ds, one by one, whatever is frozen meanwhile -/
structure Src (g : Gx) (F1 : Hp) (J : It) (ds : List D) : Prop where
  go : ∀ i F Mm G H σ ts, Same F1 F → Sta g F Mm G H σ ts → i < ds.length → J.go i H
  stop : ∀ i F Mm G H σ ts, Same F1 F → Sta g F Mm G H σ ts → i = ds.length → J.stop i H
  yld : ∀ i d F Mm G H σ ts x H', Same F1 F → Sta g F Mm G H σ ts → ds[i]? = some d → J.yld i H x H' → ∃ F2, Same F F2 ∧ Rp g F2 x d ∧ Sta g F2 Mm G H' σ ts
theorem Src.mono {g : Gx} {F1 F2 : Hp} {J : It} {ds : List D} (s : Src g F1 J ds) (h : Same F1 F2) : Src g F2 J ds :=
  ⟨fun i F Mm G H σ ts a => s.go i F Mm G H σ ts (h.trans a), fun i F Mm G H σ ts a => s.stop i F Mm G H σ ts (h.trans a), fun i d F Mm G H σ ts x H' a => s.yld i d F Mm G H σ ts x H' (h.trans a)⟩
def KI (g : Gx) (W : WX) (F G : Hp) (σ : L2.St) (Rr : It → Hp → Prop) (r : R (List D)) : Prop := match r with
  | .bad => False
  | .ok ds ts' => ∀ F' M' H' J, Same F F' → Sta g F' M' G H' σ ts' → Src g F' J ds → Rr J H'
  | .ex c ts' => KX g W F G σ c ts'
def tI (g : Gx) (W : WX) (m : M (List D)) : TI := fun σ H Rr => ∃ F Mm G ts, Sta g F Mm G H σ ts ∧ KI g W F G σ Rr (m ts)
theorem pi_imp {X : Cx} {tg e : Expr} {t t' : TI} (h : PI X tg e t) (i : ∀ σ H Rr, t' σ H Rr → t σ H Rr) : PI X tg e t' := ⟨fun pins s σ H Rr I q => h.run pins s σ H Rr I (i σ H Rr q)⟩
section
variable {X : Cx} {W : WX} {tg l e e2 : Expr} {pos p tpos : Pos} {g : Gx}
def iSeq (K : PySem.W.Frag) (tl : TE) : TI := fun σ H Rr => tl σ H fun x H1 => ∃ a, x = .ref a ∧ ((∃ xs, SqL K H1 a xs ∧ Rr (Itl K a) H1) ∨ ∃ xs, SqT K H1 a xs ∧ Rr (Itt K a) H1)
theorem pi_seq {tl : TE} (hl : PE X l tl) : PI X tg l (iSeq X.K tl) := by
  refine ⟨fun pins s σ H Rr I h => ?_⟩
  refine thn (hl.run pins s σ H _ I h) fun v s1 ⟨x, H1, I1, r1, a, e1, q1⟩ => ?_
  subst e1
  cases r1
  have fresh : ∀ b, b ∈ [s1.heap.objs.size] → FpOk X pins H1 b := fun b hb => by
    rw [List.mem_singleton] at hb
    rw [hb]
    exact I1.fpOk (Nat.le_refl _) (I1.hok.fresh (Nat.le_refl _))
  rcases q1 with ⟨xs, hq, q⟩ | ⟨xs, hq, q⟩
  · obtain ⟨its, rv, pl, hz⟩ := I1.list hq
    exact wpAny_pyIter_list pl.isList ⟨_, [s1.heap.objs.size], _, _, H1, rfl, I1.kept (t' := s1.toks) fun b o z => Heap.get?_push_of_some _ z, turn_list a _, ⟨_, Heap.get?_push_size _ rfl, rfl, rfl⟩, fresh, q⟩
  · obtain ⟨its, rv, pl, hz⟩ := I1.tuple hq
    exact wpAny_pyIter_tuple (show s1.heap.IsTuple a its.toArray from pl) ⟨_, [s1.heap.objs.size], _, _, H1, rfl, I1.kept (t' := s1.toks) fun b o z => Heap.get?_push_of_some _ z, turn_tuple a _, ⟨_, Heap.get?_push_size _ rfl, rfl, rfl⟩, fresh, q⟩
theorem src_list {F1 : Hp} {a : Addr} {xs : List V} {ds : List D} (h : SqL g.K F1 a xs) (r : RpAll g F1 xs ds) : Src g F1 (Itl g.K a) ds where
  go := fun i F Mm G H σ ts s st hi => by
    obtain ⟨x, e, _⟩ := r.get (List.getElem?_eq_getElem hi)
    exact ⟨xs, x, (s.trans st.hc.fh).seq h, e⟩
  stop := fun i F Mm G H σ ts s st hi => ⟨xs, (s.trans st.hc.fh).seq h, by rw [r.length, hi]; exact Nat.le_refl _⟩
  yld := fun i d F Mm G H σ ts x H' s st hd ⟨e, y⟩ => by
    subst e
    obtain ⟨v, e1, rv⟩ := r.get hd
    have e2 := y xs ((s.trans st.hc.fh).seq h)
    rw [e1] at e2; cases e2
    exact ⟨F, Same.refl _, rv.mono s, st⟩
theorem src_tup {F1 : Hp} {a : Addr} {xs : List V} {ds : List D} (h : SqT g.K F1 a xs) (r : RpAll g F1 xs ds) : Src g F1 (Itt g.K a) ds where
  go := fun i F Mm G H σ ts s st hi => by
    obtain ⟨x, e, _⟩ := r.get (List.getElem?_eq_getElem hi)
    exact ⟨xs, x, Same.seqT (s.trans st.hc.fh) h, e⟩
  stop := fun i F Mm G H σ ts s st hi => ⟨xs, Same.seqT (s.trans st.hc.fh) h, by rw [r.length, hi]; exact Nat.le_refl _⟩
  yld := fun i d F Mm G H σ ts x H' s st hd ⟨e, y⟩ => by
    subst e
    obtain ⟨v, e1, rv⟩ := r.get hd
    have e2 := y xs (Same.seqT (s.trans st.hc.fh) h)
    rw [e1] at e2; cases e2
    exact ⟨F, Same.refl _, rv.mono s, st⟩
def itemsOf : D → Option (List D)
  | .lst l => some l
  | .tup l => some l
  | .scr l => some (l.map .int)
  | _ => none
theorem pi_seqM {m : M D} (h : PE X l (tZ (gx X) W m)) : PI X tg l (tI (gx X) W (m >>= fun d => opt (itemsOf d))) :=
  pi_imp (pi_seq h) fun σ H Rr ⟨F, Mm, G, ts, st, k⟩ => by
    refine tZ_then (K := KI (gx X) W F G σ Rr) st id (fun _ _ z => z) k fun d ts1 _ k1 F1 M1 H1 v s1 r1 st1 => ?_
    cases r1 with
    | lst h r => exact ⟨_, rfl, .inl ⟨_, .of (st1.hc.fh _ _ h), k1 F1 M1 H1 _ s1 st1 (src_list (.of h) r)⟩⟩
    | tup h r => exact ⟨_, rfl, .inr ⟨_, .of (st1.hc.fh _ _ h), k1 F1 M1 H1 _ s1 st1 (src_tup (.of h) r)⟩⟩
    | ktup h _ r => exact ⟨_, rfl, .inr ⟨_, Same.seqT Same.empty h, k1 F1 M1 H1 _ s1 st1 (src_tup (Same.seqT Same.empty h) r)⟩⟩
    | scr h => exact ⟨_, rfl, .inl ⟨_, Same.seq st1.hc.fh h, k1 F1 M1 H1 _ s1 st1 (src_list h (RpAll.ints _))⟩⟩
    | _ => exact k1.elim
def upto (lo hi : Int) : List D := (List.range (hi - lo).toNat).map fun (k : Nat) => D.int (lo + k)
theorem src_range {F1 : Hp} {lo : Int} {n : Nat} : Src g F1 (Itr lo n) ((List.range n).map fun (k : Nat) => D.int (lo + k)) where
  go := fun i F Mm G H σ ts s st hi => by
    have : i < n := by simpa using hi
    exact this
  stop := fun i F Mm G H σ ts s st hi => by
    show n ≤ i
    rw [hi]; simp
  yld := fun i d F Mm G H σ ts x H' s st hd ⟨e, y⟩ => by
    subst e y
    rw [List.getElem?_map] at hd
    cases q : (List.range n)[i]? with
    | none => rw [q] at hd; cases hd
    | some k =>
      rw [q] at hd; cases hd
      have : k = i := by
        have := List.getElem?_eq_some_iff.mp q
        obtain ⟨h1, h2⟩ := this
        simpa using h2.symm
      subst this
      exact ⟨F, Same.refl _, .int _, st⟩
def big62 (i : Int) : Prop := -4611686018427387904 ≤ i ∧ i < 4611686018427387904
instance (i : Int) : Decidable (big62 i) := by unfold big62; infer_instance
def rng1 (d : D) : Option (List D) := match toI d with | some j => if big62 j then some (upto 0 j) else none | none => none
def rng2 (d e : D) : Option (List D) := match toI d, toI e with | some i, some j => if big62 i ∧ big62 j then some (upto i j) else none | _, _ => none
theorem pi_rng1 {m : M D} (hg : Gl X "range") (hm : X.mg "range" = none) (h : PE X e (tV (gx X) W m)) (n : nst e = true) : PI X tg (.Call (.Name "range" p) [e] [] pos) (tI (gx X) W (m >>= fun d => opt (rng1 d))) :=
  pi_imp (pi_range1 hg hm (pa_cons h pa_nil (star_of n _ _)) (star_of n _ _)) fun σ H Rr ⟨F, Mm, G, ts, st, k⟩ => by
    refine tV_then (K := KI (gx X) W F G σ Rr) st id (fun _ _ z => z) k fun d ts1 _ k1 F1 M1 H1 v s1 r1 st1 => ?_
    unfold rng1 at k1
    cases q : toI d with
    | none => rw [q] at k1; exact k1.elim
    | some j =>
      rw [q] at k1
      simp only at k1
      by_cases hb : big62 j
      · rw [if_pos hb] at k1
        rw [toI_eq q] at r1
        cases r1.int
        obtain ⟨b1, b2⟩ := hb
        refine ⟨j, rfl, by omega, by omega, k1 F1 M1 H1 _ s1 st1 ?_⟩
        unfold upto
        rw [Int.sub_zero]
        exact src_range
      · rw [if_neg hb] at k1; exact k1.elim
theorem pi_rng2 {ma mb : M D} (hg : Gl X "range") (hm : X.mg "range" = none) (h : PE X e (tZ (gx X) W ma)) (h2 : PE X e2 (tV (gx X) W mb)) (n : nst e = true) (n2 : nst e2 = true) :
    PI X tg (.Call (.Name "range" p) [e, e2] [] pos) (tI (gx X) W (ma >>= fun d => mb >>= fun d2 => opt (rng2 d d2))) :=
  pi_imp (pi_range2 hg hm (pa_cons h (pa_cons h2 pa_nil (star_of n2 _ _)) (star_of n _ _)) (by rw [star_of n, star_of n2]; rfl) (by rw [star_of n2]; rfl)) fun σ H Rr ⟨F, Mm, G, ts, st, k⟩ => by
    refine tZ_then (K := KI (gx X) W F G σ Rr) st id (fun _ _ z => z) k fun d ts1 _ k1 F1 M1 H1 v s1 r1 st1 => ?_
    have k1' : KI (gx X) W F1 G σ Rr ((mb >>= fun d2 => opt (rng2 d d2)) ts1) := by
      cases q : (mb >>= fun d2 => opt (rng2 d d2)) ts1 with
      | bad => rw [q] at k1; exact k1
      | ok ds ts' => rw [q] at k1; exact fun F' M' H' J s => k1 F' M' H' J (s1.trans s)
      | ex c ts' => rw [q] at k1; exact KX.mono s1 k1
    refine tV_then (K := KI (gx X) W F1 G σ Rr) st1 id (fun _ _ z => z) k1' fun d2 ts2 _ k2 F2 M2 H2 v2 s2 r2 st2 => ?_
    unfold rng2 at k2
    cases q : toI d with
    | none => rw [q] at k2; exact k2.elim
    | some i =>
      cases q2 : toI d2 with
      | none => rw [q, q2] at k2; exact k2.elim
      | some j =>
        rw [q, q2] at k2
        simp only at k2
        by_cases hb : big62 i ∧ big62 j
        · rw [if_pos hb] at k2
          rw [toI_eq q] at r1
          rw [toI_eq q2] at r2
          cases r1
          cases r2.int
          obtain ⟨⟨b1, b2⟩, b3, b4⟩ := hb
          exact ⟨i, j, rfl, ⟨by omega, by omega, by omega, by omega⟩, k2 F2 M2 H2 _ s2 st2 src_range⟩
        · rw [if_neg hb] at k2; exact k2.elim
def enumD : Nat → List D → List D
  | _, [] => []
  | k, d :: r => .tup [.int k, d] :: enumD (k + 1) r
theorem enumD_length : ∀ k (l : List D), (enumD k l).length = l.length
  | _, [] => rfl
  | k, d :: r => by rw [enumD, List.length_cons, List.length_cons, enumD_length]
theorem enumD_get : ∀ {k : Nat} {l : List D} {i : Nat} {d : D}, (enumD k l)[i]? = some d → ∃ x, l[i]? = some x ∧ d = .tup [.int ((k + i : Nat) : Int), x]
  | k, [], i, d, h => by simp [enumD] at h
  | k, x :: r, 0, d, h => by
    rw [enumD] at h
    simp at h
    exact ⟨x, rfl, by rw [← h]; rfl⟩
  | k, x :: r, i + 1, d, h => by
    rw [enumD] at h
    obtain ⟨y, h1, h2⟩ := enumD_get (k := k + 1) (i := i) (by simpa using h)
    refine ⟨y, by simpa using h1, ?_⟩
    rw [h2]
    have : k + 1 + i = k + (i + 1) := by omega
    rw [this]
theorem src_enum {F1 : Hp} {a : Addr} {xs : List V} {ds : List D} (h : SqL g.K F1 a xs) (r : RpAll g F1 xs ds) : Src g F1 (Ite g.K a) (enumD 0 ds) where
  go := fun i F Mm G H σ ts s st hi => by
    rw [enumD_length] at hi
    obtain ⟨x, e, _⟩ := r.get (List.getElem?_eq_getElem hi)
    exact ⟨xs, x, (s.trans st.hc.fh).seq h, e⟩
  stop := fun i F Mm G H σ ts s st hi => ⟨xs, (s.trans st.hc.fh).seq h, by rw [r.length, hi, enumD_length]; exact Nat.le_refl _⟩
  yld := fun i d F Mm G H σ ts x H' s st hd ⟨Ta, y, e1, nT, e2, f⟩ => by
    subst e1 e2
    obtain ⟨z, e3, e4⟩ := enumD_get hd
    subst e4
    obtain ⟨v, e5, rv⟩ := r.get e3
    have e6 := f xs ((s.trans st.hc.fh).seq h)
    rw [e5] at e6; cases e6
    obtain ⟨s2, st2⟩ := st.newF (o := .tup [.int (i : Nat), y]) nT
    refine ⟨_, s2, .tup upd_same (.cons ?_ (.cons (rv.mono (s.trans s2)) .nil)), st2⟩
    rw [Nat.zero_add]; exact .int _
theorem pi_enumM {m : M D} {elts : List Expr} {kk : Nat} (hg : Gl X "enumerate") (hm : X.mg "enumerate" = none) (h : PE X e (tZ (gx X) W m)) (n : nst e = true) :
    PI X (.Tuple elts kk tpos) (.Call (.Name "enumerate" p) [e] [] pos) (tI (gx X) W (m >>= fun d => match d with | .lst l => M.ret (enumD 0 l) | _ => stop)) :=
  pi_imp (pi_enum hg hm (pa_cons h pa_nil (star_of n _ _)) (star_of n _ _)) fun σ H Rr ⟨F, Mm, G, ts, st, k⟩ => by
    refine tZ_then (K := KI (gx X) W F G σ Rr) st id (fun _ _ z => z) k fun d ts1 _ k1 F1 M1 H1 v s1 r1 st1 => ?_
    cases r1 with
    | lst h r => exact ⟨_, _, rfl, .of (st1.hc.fh _ _ h), k1 F1 M1 H1 _ s1 st1 (src_enum (.of h) r)⟩
    | _ => exact k1.elim
def zipD : List D → List D → List D
  | x :: xs, y :: ys => .tup [x, y] :: zipD xs ys
  | _, _ => []
theorem zipD_length : ∀ xs ys : List D, (zipD xs ys).length = min xs.length ys.length
  | [], ys => by simp [zipD]
  | x :: xs, [] => by simp [zipD]
  | x :: xs, y :: ys => by
    rw [zipD, List.length_cons, List.length_cons, List.length_cons, zipD_length]
    omega
theorem zipD_get : ∀ {xs ys : List D} {i : Nat} {d : D}, (zipD xs ys)[i]? = some d → ∃ x y, xs[i]? = some x ∧ ys[i]? = some y ∧ d = .tup [x, y]
  | [], _, i, d, h => by simp [zipD] at h
  | x :: xs, [], i, d, h => by simp [zipD] at h
  | x :: xs, y :: ys, 0, d, h => by
    rw [zipD] at h
    simp at h
    exact ⟨x, y, rfl, rfl, h.symm⟩
  | x :: xs, y :: ys, i + 1, d, h => by
    rw [zipD] at h
    obtain ⟨a, b, h1, h2, h3⟩ := zipD_get (i := i) (by simpa using h)
    exact ⟨a, b, by simpa using h1, by simpa using h2, h3⟩
theorem src_zipL {F1 : Hp} {a b : Addr} {xs ys : List V} {ds es : List D} (h : SqL g.K F1 a xs) (r : RpAll g F1 xs ds) (h2 : SqL g.K F1 b ys) (r2 : RpAll g F1 ys es) : Src g F1 (Itz g.K a b) (zipD ds es) where
  go := fun i F Mm G H σ ts s st hi => by
    rw [zipD_length] at hi
    obtain ⟨x, e, _⟩ := r.get (List.getElem?_eq_getElem (show i < ds.length by omega))
    obtain ⟨y, e', _⟩ := r2.get (List.getElem?_eq_getElem (show i < es.length by omega))
    exact ⟨xs, ys, x, y, (s.trans st.hc.fh).seq h, (s.trans st.hc.fh).seq h2, e, e'⟩
  stop := fun i F Mm G H σ ts s st hi => ⟨xs, ys, (s.trans st.hc.fh).seq h, (s.trans st.hc.fh).seq h2, by rw [zipD_length] at hi; rw [r.length, r2.length]; omega⟩
  yld := fun i d F Mm G H σ ts x H' s st hd ⟨Ta, u, w, e1, nT, e2, f, f2⟩ => by
    subst e1 e2
    obtain ⟨z, z2, e3, e4, e5⟩ := zipD_get hd
    subst e5
    obtain ⟨v, e6, rv⟩ := r.get e3
    obtain ⟨v2, e7, rv2⟩ := r2.get e4
    have e8 := f xs ((s.trans st.hc.fh).seq h)
    rw [e6] at e8; cases e8
    have e9 := f2 ys ((s.trans st.hc.fh).seq h2)
    rw [e7] at e9; cases e9
    obtain ⟨s2, st2⟩ := st.newF (o := .tup [u, w]) nT
    exact ⟨_, s2, .tup upd_same (.cons (rv.mono (s.trans s2)) (.cons (rv2.mono (s.trans s2)) .nil)), st2⟩
theorem src_zipT {F1 : Hp} {a b : Addr} {xs ys : List V} {ds es : List D} (h : SqT g.K F1 a xs) (r : RpAll g F1 xs ds) (h2 : SqT g.K F1 b ys) (r2 : RpAll g F1 ys es) : Src g F1 (RZ.ItzT g.K a b) (zipD ds es) where
  go := fun i F Mm G H σ ts s st hi => by
    rw [zipD_length] at hi
    obtain ⟨x, e, _⟩ := r.get (List.getElem?_eq_getElem (show i < ds.length by omega))
    obtain ⟨y, e', _⟩ := r2.get (List.getElem?_eq_getElem (show i < es.length by omega))
    exact ⟨xs, ys, x, y, Same.seqT (s.trans st.hc.fh) h, Same.seqT (s.trans st.hc.fh) h2, e, e'⟩
  stop := fun i F Mm G H σ ts s st hi => ⟨xs, ys, Same.seqT (s.trans st.hc.fh) h, Same.seqT (s.trans st.hc.fh) h2, by rw [zipD_length] at hi; rw [r.length, r2.length]; omega⟩
  yld := fun i d F Mm G H σ ts x H' s st hd ⟨Ta, u, w, e1, nT, e2, f, f2⟩ => by
    subst e1 e2
    obtain ⟨z, z2, e3, e4, e5⟩ := zipD_get hd
    subst e5
    obtain ⟨v, e6, rv⟩ := r.get e3
    obtain ⟨v2, e7, rv2⟩ := r2.get e4
    have e8 := f xs (Same.seqT (s.trans st.hc.fh) h)
    rw [e6] at e8; cases e8
    have e9 := f2 ys (Same.seqT (s.trans st.hc.fh) h2)
    rw [e7] at e9; cases e9
    obtain ⟨s2, st2⟩ := st.newF (o := .tup [u, w]) nT
    exact ⟨_, s2, .tup upd_same (.cons (rv.mono (s.trans s2)) (.cons (rv2.mono (s.trans s2)) .nil)), st2⟩
def zip2 (a b : D) : Option (List D) := match a with
  | .lst l => match b with | .lst k => some (zipD l k) | _ => none
  | .tup l => match b with | .tup k => some (zipD l k) | _ => none
  | _ => none
theorem KI.mono {F F1 G : Hp} {σ : L2.St} {Rr : It → Hp → Prop} {r : R (List D)} (s : Same F F1) (h : KI g W F G σ Rr r) : KI g W F1 G σ Rr r := by
  cases r with
  | bad => exact h
  | ok ds ts => exact fun F' M' H' J s1 => h F' M' H' J (s.trans s1)
  | ex c ts => exact KX.mono s h
theorem pi_zipM {ma mb : M D} {elts : List Expr} {kk : Nat} (hg : Gl X "zip") (hm : X.mg "zip" = none) (h : PE X e (tZ (gx X) W ma)) (h2 : PE X e2 (tZ (gx X) W mb)) (n : nst e = true) (n2 : nst e2 = true) :
    PI X (.Tuple elts kk tpos) (.Call (.Name "zip" p) [e, e2] [] pos) (tI (gx X) W (ma >>= fun d => mb >>= fun d2 => opt (zip2 d d2))) :=
  pi_imp (RZ.pi_zipA hg hm (pa_cons h (pa_cons h2 pa_nil (star_of n2 _ _)) (star_of n _ _)) (star_of n _ _) (star_all (by simp [n2]) _ _)) fun σ H Rr ⟨F, Mm, G, ts, st, k⟩ => by
    refine tZ_then (K := KI (gx X) W F G σ Rr) st id (fun _ _ z => z) k fun d ts1 _ k1 F1 M1 H1 v s1 r1 st1 => ?_
    refine tZ_then (K := KI (gx X) W F1 G σ Rr) st1 id (fun _ _ z => z) (KI.mono s1 k1) fun d2 ts2 _ k2 F2 M2 H2 v2 s2 r2 st2 => ?_
    have hh := st2.hc.fh
    cases r1 with
    | lst h r =>
      cases r2 with
      | lst h' r' => exact ⟨_, _, _, _, rfl, .inl ⟨.of (hh _ _ (s2 _ _ h)), .of (hh _ _ h'), k2 F2 M2 H2 _ s2 st2 (src_zipL (.of (s2 _ _ h)) (r.mono s2) (.of h') r')⟩⟩
      | _ => exact k2.elim
    | @tup a xs dsa h r =>
      cases d2 with
      | tup l' =>
        obtain ⟨b, ys, rfl, h', r'⟩ := r2.tupS
        exact ⟨_, _, _, _, rfl, .inr ⟨.of ((s2.trans hh) _ _ h), Same.seqT hh h', k2 F2 M2 H2 _ s2 st2 (src_zipT (.of (s2 _ _ h)) (r.mono s2) h' r')⟩⟩
      | _ => exact k2.elim
    | @ktup a xs dsa h nl r =>
      cases d2 with
      | tup l' =>
        obtain ⟨b, ys, rfl, h', r'⟩ := r2.tupS
        exact ⟨_, _, _, _, rfl, .inr ⟨Same.seqT Same.empty h, Same.seqT hh h', k2 F2 M2 H2 _ s2 st2 (src_zipT (Same.seqT Same.empty h) (r.mono s2) h' r')⟩⟩
      | _ => exact k2.elim
    | _ => exact k2.elim
end
/-! ### for -/
def loopS (put : D → List T → Option (List T)) (body : S) : List D → S
  | [] => RS.nx
  | d :: ds => fun ts => match put d ts with
    | none => .bad
    | some ts1 => match body ts1 with
      | .nx ts2 => loopS put body ds ts2
      | .ct ts2 => loopS put body ds ts2
      | .bk ts2 => .nx ts2
      | .rt t ts2 => .rt t ts2
      | .ex c ts2 => .ex c ts2
      | .bad => .bad
def forS (m : M (List D)) (put : D → List T → Option (List T)) (body : S) : S := bindS m fun ds => loopS put body ds
section
variable {X : Cx} {W : WX} {bs : List Nat} {tg iter : Expr} {body : List Stmt} {pos : Pos} {m : M (List D)} {put : D → List T → Option (List T)} {n : S}
theorem for_coreK {σ : L2.St} {F Mm G H : Hp} {ts : List T} {D : Ends} (st : Sta (gx X) F Mm G H σ ts) (k : KS (gx X) W bs F G σ D (forS m put n ts)) :
    tFor (fun _ _ Rr => KI (gx X) W F G σ Rr (m ts)) (gD (gx X) bs put) (tS (gx X) W bs n) D σ H := by
    show KI (gx X) W F G σ _ (m ts)
    unfold forS bindS at k
    cases q : m ts with
    | bad => rw [q] at k; exact k
    | ex c ts' => rw [q] at k; exact k.kx
    | ok ds ts0 =>
      rw [q] at k
      simp only at k
      intro F1 M1 H1 J s1 st1 src
      refine ⟨fun i m σ' H' => ∃ F' M' ts', Same F1 F' ∧ Sta (gx X) F' M' G H' σ' ts' ∧ Pin bs σ σ' ∧ i + m = ds.length ∧ KS (gx X) W bs F' G σ' D (loopS put n (ds.drop i) ts'), ⟨ds.length, F1, M1, ts0, Same.refl _, st1, Pin.refl, Nat.zero_add _, KS.mono k s1 Pin.refl⟩, ?_⟩
      rintro i m σ' H' ⟨F2, M2, ts2, s2, st2, p2, em, k2⟩
      cases m with
      | zero =>
        have ei : i = ds.length := em
        refine .inl ⟨src.stop i F2 M2 G H' σ' ts2 s2 st2 ei, ?_⟩
        rw [List.drop_of_length_le (by omega)] at k2
        exact k2 F2 M2 H' σ' (Same.refl _) st2 Pin.refl
      | succ m =>
        have hi : i < ds.length := by omega
        have ed : ds.drop i = ds[i] :: ds.drop (i + 1) := List.drop_eq_getElem_cons hi
        rw [ed] at k2
        refine .inr ⟨src.go i F2 M2 G H' σ' ts2 s2 st2 hi, fun σ3 H3 => ∃ F' M' ts', Same F1 F' ∧ Sta (gx X) F' M' G H3 σ3 ts' ∧ Pin bs σ σ3 ∧ KS (gx X) W bs F' G σ3 D (loopS put n (ds.drop (i + 1)) ts'), ?_, ?_⟩
        · rintro σ3 H3 ⟨F3, M3, ts3, s3, st3, p3, k3⟩
          exact ⟨m, Nat.lt_succ_self m, F3, M3, ts3, s3, st3, p3, by omega, k3⟩
        · intro x H3 y
          obtain ⟨F3, s3, rx, st3⟩ := src.yld i _ F2 M2 G H' σ' ts2 x H3 s2 st2 (List.getElem?_eq_getElem hi) y
          rw [loopS] at k2
          dsimp only at k2
          cases q2 : put ds[i] ts2 with
          | none => rw [q2] at k2; exact k2.elim
          | some ts3 =>
            simp only [q2] at k2
            refine ⟨F3, M2, G, ts2, ds[i], ts3, st3, rx, q2, fun M4 σ4 st4 p4 => ⟨F3, M4, G, ts3, st4, ?_⟩⟩
            cases q3 : n ts3 with
            | bad => rw [q3] at k2; exact k2
            | nx ts5 =>
              rw [q3] at k2
              exact fun F5 M5 H5 σ5 s5 st5 p5 => ⟨F5, M5, ts5, (s2.trans s3).trans s5, st5, (p2.trans p4).trans p5, KS.mono k2 (s3.trans s5) (p4.trans p5)⟩
            | ct ts5 =>
              rw [q3] at k2
              exact fun F5 M5 H5 σ5 s5 st5 p5 => ⟨F5, M5, ts5, (s2.trans s3).trans s5, st5, (p2.trans p4).trans p5, KS.mono k2 (s3.trans s5) (p4.trans p5)⟩
            | bk ts5 =>
              rw [q3] at k2
              exact fun F5 M5 H5 σ5 s5 st5 p5 => k2 F5 M5 H5 σ5 (s3.trans s5) st5 (p4.trans p5)
            | rt t ts5 =>
              rw [q3] at k2
              exact fun F5 Mv M5 H5 σ5 v s5 r st5 d p5 => k2 F5 Mv M5 H5 σ5 v (s3.trans s5) r st5 d (p4.trans p5)
            | ex c ts5 =>
              rw [q3] at k2
              exact fun F5 M5 H5 σ5 C s5 st5 p5 => k2 F5 M5 H5 σ5 C (s3.trans s5) st5 (p4.trans p5)
theorem ps_forS (hp : PassesOwn (model X.prog X.w) X.A X.env X.xe) (hc : X.calm = true) (hi : PI X tg iter (tI (gx X) W m)) (hg : PG X tg (gD (gx X) bs put)) (hb : PSs X body (tS (gx X) W bs n)) (hs : ∀ x, foldedSetIterable iter X.env x = pure x) :
    PS X (.For tg iter body [] pos) (tS (gx X) W bs (forS m put n)) :=
  ps_imp (ps_for hp hc hi hg hb hs) fun D σ H ⟨F, Mm, G, ts, st, k⟩ => ⟨F, Mm, G, ts, st, for_coreK st k⟩
end
end Ar
/-! ArJ: while, comprehensions, methods of lists, d[k] = v. -/
namespace Ar
open PySem PySem.Spec PyProof.Rows L2

/-! ### while -/
def whileN (c : M Bool) (body : S) : Nat → S
  | 0 => fun _ => .bad
  | n + 1 => fun ts => match c ts with
    | .bad => .bad
    | .ex e ts' => .ex e ts'
    | .ok b ts' => if b = true then (match body ts' with
      | .nx ts2 => whileN c body n ts2
      | .ct ts2 => whileN c body n ts2
      | .bk ts2 => .nx ts2
      | .rt t ts2 => .rt t ts2
      | .ex e ts2 => .ex e ts2
      | .bad => .bad) else .nx ts'
open Classical in
noncomputable def whileS (c : M Bool) (body : S) : S := fun ts => if h : ∃ n, whileN c body n ts ≠ .bad then whileN c body (Classical.choose h) ts else .bad
theorem whileN_more (c : M Bool) (body : S) : ∀ (n : Nat) (ts : List T), whileN c body n ts ≠ .bad → whileN c body (n + 1) ts = whileN c body n ts
  | 0, ts, h => absurd rfl h
  | n + 1, ts, h => by
    rw [whileN] at h ⊢
    rw [whileN]
    dsimp only at h ⊢
    cases q : c ts with
    | bad => rfl
    | ex e ts' => rfl
    | ok b ts' =>
      rw [q] at h
      cases b with
      | false => rfl
      | true =>
        simp only [if_pos] at h ⊢
        cases q2 : body ts' with
        | nx ts2 => rw [q2] at h; exact whileN_more c body n ts2 h
        | ct ts2 => rw [q2] at h; exact whileN_more c body n ts2 h
        | _ => rfl
theorem whileN_le (c : M Bool) (body : S) (ts : List T) : ∀ {n m : Nat}, n ≤ m → whileN c body n ts ≠ .bad → whileN c body m ts = whileN c body n ts := fun {n m} h hn => by
  induction h with
  | refl => rfl
  | step h ih => rw [whileN_more c body _ ts (by rw [ih]; exact hn), ih]
theorem whileS_eq {c : M Bool} {body : S} {ts : List T} {n : Nat} {r : RS} (h : whileN c body n ts = r) (hr : r ≠ .bad) : whileS c body ts = r := by
  have ex : ∃ n, whileN c body n ts ≠ .bad := ⟨n, by rw [h]; exact hr⟩
  unfold whileS
  rw [dif_pos ex]
  have h1 := Classical.choose_spec ex
  have hn : whileN c body n ts ≠ .bad := by rw [h]; exact hr
  rcases Nat.le_total n (Classical.choose ex) with q | q
  · rw [whileN_le c body ts q hn]; exact h
  · rw [← whileN_le c body ts q h1]; exact h
section
variable {X : Cx} {W : WX} {bs : List Nat} {e c : Expr} {body : List Stmt} {pos : Pos}
theorem ps_whileS {mc : M Bool} {n : S} (hp : PassesOwn (model X.prog X.w) X.A X.env X.xe) (hc : PT X c (tB (gx X) W mc)) (hb : PSs X body (tS (gx X) W bs n)) : PS X (.While c body [] pos) (tS (gx X) W bs (whileS mc n)) :=
  ps_imp (ps_while hp hc hb) fun D σ H ⟨F, Mm, G, ts, st, k⟩ => by
    unfold whileS at k
    split at k
    · rename_i ex
      generalize Classical.choose ex = m0 at k
      refine ⟨fun m σ' H' => ∃ F' M' ts', Same F F' ∧ Sta (gx X) F' M' G H' σ' ts' ∧ Pin bs σ σ' ∧ KS (gx X) W bs F' G σ' D (whileN mc n m ts'), ⟨m0, F, Mm, ts, Same.refl _, st, Pin.refl, k⟩, ?_⟩
      rintro m σ' H' ⟨F1, M1, ts1, s1, st1, p1, k1⟩
      cases m with
      | zero => exact k1.elim
      | succ m =>
        rw [whileN] at k1
        dsimp only at k1
        refine ⟨F1, M1, G, ts1, st1, ?_⟩
        cases q : mc ts1 with
        | bad => rw [q] at k1; exact k1
        | ex e ts' => rw [q] at k1; exact k1.kx
        | ok b ts2 =>
          rw [q] at k1
          intro F2 M2 H2 s2 st2
          cases b with
          | false => exact k1 F2 M2 H2 σ' s2 st2 Pin.refl
          | true =>
            simp only [if_pos] at k1 ⊢
            refine ⟨fun σ3 H3 => ∃ F' M' ts', Same F F' ∧ Sta (gx X) F' M' G H3 σ3 ts' ∧ Pin bs σ σ3 ∧ KS (gx X) W bs F' G σ3 D (whileN mc n m ts'), ?_, F2, M2, G, ts2, st2, ?_⟩
            · rintro σ3 H3 q3
              exact ⟨m, Nat.lt_succ_self m, q3⟩
            · cases q3 : n ts2 with
              | bad => rw [q3] at k1; exact k1
              | nx ts5 =>
                rw [q3] at k1
                exact fun F5 M5 H5 σ5 s5 st5 p5 => ⟨F5, M5, ts5, (s1.trans s2).trans s5, st5, p1.trans p5, KS.mono k1 (s2.trans s5) p5⟩
              | ct ts5 =>
                rw [q3] at k1
                exact fun F5 M5 H5 σ5 s5 st5 p5 => ⟨F5, M5, ts5, (s1.trans s2).trans s5, st5, p1.trans p5, KS.mono k1 (s2.trans s5) p5⟩
              | bk ts5 =>
                rw [q3] at k1
                exact fun F5 M5 H5 σ5 s5 st5 p5 => k1 F5 M5 H5 σ5 (s2.trans s5) st5 p5
              | rt t ts5 =>
                rw [q3] at k1
                exact fun F5 Mv M5 H5 σ5 v s5 r st5 d p5 => k1 F5 Mv M5 H5 σ5 v (s2.trans s5) r st5 d p5
              | ex c ts5 =>
                rw [q3] at k1
                exact fun F5 M5 H5 σ5 C s5 st5 p5 => k1 F5 M5 H5 σ5 C (s2.trans s5) st5 p5
    · exact k.elim
end

/-! ### comprehensions -/
def wipeT (ts : List T) : List Nat → List T
  | [] => ts
  | v :: vs => (wipeT ts vs).set v .gone
theorem wipeT_length (ts : List T) : ∀ vs, (wipeT ts vs).length = ts.length
  | [] => rfl
  | v :: vs => by rw [wipeT, List.length_set, wipeT_length]
theorem wipeT_in {ts : List T} {i : Nat} {t : T} : ∀ {vs : List Nat}, i ∈ vs → (wipeT ts vs)[i]? = some t → t = .gone
  | v :: vs, h, e => by
    rw [wipeT] at e
    by_cases hv : v = i
    · subst hv
      by_cases hl : v < (wipeT ts vs).length
      · rw [List.getElem?_set_self hl] at e; cases e; rfl
      · rw [List.getElem?_eq_none (by rw [List.length_set]; omega)] at e; cases e
    · rw [List.getElem?_set_ne hv] at e
      rcases List.mem_cons.mp h with q | q
      · exact absurd q.symm hv
      · exact wipeT_in q e
theorem wipe_other {σ : L2.St} {i : Nat} : ∀ {vs : List Nat}, i ∉ vs → (wipe σ vs)[i]? = σ[i]?
  | [], _ => rfl
  | v :: vs, h => by
    rw [List.mem_cons, not_or] at h
    unfold wipe
    rw [List.getElem?_set_ne (fun e => h.1 e.symm), wipe_other h.2]
section
variable {g : Gx} {F Mm G H : Hp} {σ : L2.St} {ts : List T}
theorem Sta.gone {i : Nat} {v : Option V} (st : Sta g F Mm G H σ ts) : Sta g F Mm G H (σ.set i v) (ts.set i .gone) := by
  obtain ⟨vs, r, q⟩ := st.vs
  refine ⟨st.hc, ⟨vs, ?_, fun k u t h1 h2 => ?_⟩, by rw [List.length_set, List.length_set]; exact st.len⟩
  · cases e : ts[i]? with
    | none => rw [List.set_eq_of_length_le (List.getElem?_eq_none_iff.mp e)]; exact r
    | some t =>
      obtain ⟨w, M1, M2, e1, _, s1, s2, d, back⟩ := r.pick e
      have b := back F em w .gone Mm (Same.refl _) .gone Dj.em_l Same.empty s2
      have lt : i < vs.length := (List.getElem?_eq_some_iff.mp e1).1
      have es : vs.set i w = vs := by
        refine List.ext_getElem? fun k => ?_
        by_cases hk : i = k
        · subst hk; rw [List.getElem?_set_self lt, e1]
        · rw [List.getElem?_set_ne hk]
      rw [es] at b; exact b
  · by_cases hk : i = k
    · subst hk
      have lt : i < ts.length := by
        have := (List.getElem?_eq_some_iff.mp h2).1
        rwa [List.length_set] at this
      rw [List.getElem?_set_self lt] at h2; cases h2; exact .inl rfl
    · rw [List.getElem?_set_ne hk] at h2 ⊢
      exact q k u t h1 h2
theorem Sta.wipe (st : Sta g F Mm G H σ ts) : ∀ vs, Sta g F Mm G H (L2.wipe σ vs) (wipeT ts vs)
  | [] => st
  | v :: vs => (Sta.wipe st vs).gone
theorem Sta.unwipe {vs : List Nat} (st : Sta g F Mm G H (L2.wipe σ vs) (wipeT ts vs)) : Sta g F Mm G H σ (wipeT ts vs) := by
  obtain ⟨ws, r, q⟩ := st.vs
  refine ⟨st.hc, ⟨ws, r, fun k u t h1 h2 => ?_⟩, by rw [← st.len, wipe_length]⟩
  by_cases hk : k ∈ vs
  · exact .inl (wipeT_in hk h2)
  · rcases q k u t h1 h2 with z | z
    · exact .inl z
    · exact .inr (by rw [wipe_other hk] at z; exact z)
end
def others (n : Nat) (vs : List Nat) : List Nat := (List.range n).filter fun i => !vs.contains i
theorem wipe_eq {σ σ2 : L2.St} {vs : List Nat} (hl : σ2.length = σ.length) (p : Pin (others σ.length vs) (wipe σ vs) σ2) : wipe σ2 vs = wipe σ vs := by
  refine List.ext_getElem? fun i => ?_
  by_cases hi : i ∈ vs
  · have gone : ∀ (τ : L2.St) (ws : List Nat), i ∈ ws → τ.length = σ.length → (wipe τ ws)[i]? = if i < σ.length then some none else none := fun τ ws => by
      induction ws with
      | nil => intro h; simp at h
      | cons w ws ih =>
        intro h hl
        unfold wipe
        by_cases hw : w = i
        · subst hw
          by_cases hlt : w < σ.length
          · rw [List.getElem?_set_self (by rw [wipe_length, hl]; exact hlt), if_pos hlt]
          · rw [List.getElem?_eq_none (by rw [List.length_set, wipe_length, hl]; omega), if_neg hlt]
        · rw [List.getElem?_set_ne hw]
          exact ih ((List.mem_cons.mp h).resolve_left fun e => hw e.symm) hl
    rw [gone σ2 vs hi hl, gone σ vs hi rfl]
  · rw [wipe_other hi]
    by_cases hlt : i < σ.length
    · exact p i (by unfold others; rw [List.mem_filter]; exact ⟨List.mem_range.mpr hlt, by simp [hi]⟩)
    · rw [List.getElem?_eq_none (by omega), wipe_other hi, List.getElem?_eq_none (by omega)]
/-- a comprehension's turns -/
def compR (vs : List Nat) (put : D → List T → Option (List T)) (mc : M Bool) (me : M D) : List D → M (List D)
  | [] => fun ts => .ok [] (wipeT ts vs)
  | d :: ds => fun ts => match put d (wipeT ts vs) with
    | none => .bad
    | some ts1 => match mc ts1 with
      | .ok b ts2 => if b = true then (match me ts2 with
          | .ok y ts3 => match compR vs put mc me ds ts3 with
            | .ok l ts4 => .ok (y :: l) ts4
            | .ex c ts4 => .ex c ts4
            | .bad => .bad
          | _ => .bad) else compR vs put mc me ds ts2
      | _ => .bad
def compM (mi : M (List D)) (vs : List Nat) (put : D → List T → Option (List T)) (mc : M Bool) (me : M D) : M T :=
  mi >>= fun ds => compR vs put mc me ds >>= fun l => if l.length ≤ lim then M.ret (.l (l.map .z)) else stop
def W0 : WX := fun _ _ _ _ => False
theorem wipeT_idem (ts : List T) (vs : List Nat) : wipeT (wipeT ts vs) vs = wipeT ts vs := by
  refine List.ext_getElem? fun i => ?_
  by_cases hi : i ∈ vs
  · have e : ∀ (us : List T), (wipeT us vs)[i]? = if i < us.length then some .gone else none := fun us => by
      by_cases hl : i < us.length
      · rw [if_pos hl, List.getElem?_eq_getElem (by rw [wipeT_length]; exact hl)]
        exact congrArg some (wipeT_in hi (List.getElem?_eq_getElem (by rw [wipeT_length]; exact hl)))
      · rw [if_neg hl, List.getElem?_eq_none (by rw [wipeT_length]; omega)]
    rw [e, e, wipeT_length]
  · have o : ∀ (us : List T) (ws : List Nat), i ∉ ws → (wipeT us ws)[i]? = us[i]? := fun us ws => by
      induction ws with
      | nil => intro _; rfl
      | cons w ws ih =>
        intro h
        rw [List.mem_cons, not_or] at h
        rw [wipeT, List.getElem?_set_ne (fun e => h.1 e.symm), ih h.2]
    rw [o _ _ hi]
section
variable {X : Cx} {W : WX} {elt tg iter : Expr} {ifs : List Expr} {scope : Scope} {own : List (Str × Nat)} {pos : Pos} {mi : M (List D)} {put : D → List T → Option (List T)} {mc : M Bool} {me : M D}
theorem comp_coreK (hput : ∀ d ts ts', put d ts = some ts' → ts'.length = ts.length) {σ : L2.St} (hσ : σ.length = X.N.length) {F Mm G H : Hp} {ts : List T} {Q : VK} {vs : List Nat} (st : Sta (gx X) F Mm G H σ ts) (k : KD (gx X) W F G σ Q (compM mi vs put mc me ts)) :
    tLc (fun _ _ Rr => KI (gx X) W F G σ Rr (mi ts)) (gD (gx X) (others X.N.length vs) put) (tB (gx X) W0 mc) (tZ (gx X) W0 me) vs σ H Q := by
  show KI (gx X) W F G σ _ (mi ts)
  unfold compM at k
  cases q : mi ts with
  | bad => rw [bind_bad q] at k; exact k
  | ex c ts' => rw [bind_ex q] at k; exact k
  | ok ds ts0 =>
    rw [bind_ok q] at k
    intro F1 M1 H1 J s1 st1 src Da hDa
    -- what is left, behind the items so far
    let Rest : Hp → List D → R (List D) → Prop := fun F' acc r => match r with
      | .ok l ts' => (acc ++ l).length ≤ lim ∧ ∀ F'' Mv M' H' v, Same F' F'' → RO (gx X) F'' Mv v (.l ((acc ++ l).map .z)) → Sta (gx X) F'' M' (jn Mv G) H' σ ts' → Dj Mv G → Q v H'
      | _ => False
    have rest0 : Rest F1 [] (compR vs put mc me ds ts0) := by
      show match compR vs put mc me ds ts0 with
        | .ok l ts' => _
        | _ => False
      cases q2 : compR vs put mc me ds ts0 with
      | bad => rw [bind_bad q2] at k; exact k
      | ex c ts' =>
        exfalso
        have noex : ∀ (l : List D) (us : List T) (c : Str) (us' : List T), compR vs put mc me l us ≠ .ex c us' := by
          intro l
          induction l with
          | nil => intro us c us' z; cases z
          | cons d r ih =>
            intro us c us' z
            rw [compR] at z
            dsimp only at z
            split at z
            · cases z
            · split at z
              · split at z
                · split at z
                  · split at z
                    · cases z
                    · rename_i h3; cases z; exact ih _ _ _ h3
                    · cases z
                  · cases z
                · exact ih _ _ _ z
              · cases z
        exact noex _ _ _ _ q2
      | ok l ts' =>
        rw [bind_ok q2] at k
        by_cases hl : l.length ≤ lim
        · rw [if_pos hl] at k
          exact ⟨hl, fun F'' Mv M' H' v s => k F'' Mv M' H' v (s1.trans s)⟩
        · rw [if_neg hl] at k; exact k.elim
    have hn1 : σ.length = ts0.length := st1.len
    obtain ⟨stD, djD⟩ := st1.newO (o := .lst []) hDa
    refine ⟨fun i m H' => ∃ F' M' ts' acc accV, Same F1 F' ∧ Dj (upd em Da (.lst accV)) G ∧ Sta (gx X) F' M' (jn (upd em Da (.lst accV)) G) H' (wipe σ vs) (wipeT ts' vs) ∧ RpAll (gx X) F' accV acc ∧ i + m = ds.length ∧ Rest F' acc (compR vs put mc me (ds.drop i) ts'),
      ⟨ds.length, F1, M1, ts0, [], [], Same.refl _, djD, stD.wipe vs, .nil, Nat.zero_add _, rest0⟩, ?_⟩
    rintro i m H' ⟨F2, M2, ts2, acc, accV, s2, dj2, st2, ra, em, k2⟩
    cases m with
    | zero =>
      have ei : i = ds.length := em
      refine .inl ⟨src.stop i F2 M2 _ H' _ _ s2 st2 ei, ?_⟩
      rw [List.drop_of_length_le (by omega)] at k2
      obtain ⟨hl, k3⟩ := k2
      rw [List.append_nil] at k3
      exact k3 F2 (upd Ar.em Da (.lst accV)) M2 H' (.ref Da) (Same.refl _) (.l (M' := Ar.em) upd_same Same.empty rfl (ROs.of_all ra)) st2.unwipe dj2
    | succ m =>
      have hi : i < ds.length := by omega
      have ed : ds.drop i = ds[i] :: ds.drop (i + 1) := List.drop_eq_getElem_cons hi
      rw [ed, compR] at k2
      dsimp only at k2
      refine .inr ⟨src.go i F2 M2 _ H' _ _ s2 st2 hi, fun H3 => ∃ F' M' ts' acc accV, Same F1 F' ∧ Dj (upd Ar.em Da (.lst accV)) G ∧ Sta (gx X) F' M' (jn (upd Ar.em Da (.lst accV)) G) H3 (wipe σ vs) (wipeT ts' vs) ∧ RpAll (gx X) F' accV acc ∧ Rest F' acc (compR vs put mc me (ds.drop (i + 1)) ts'), ?_, ?_⟩
      · rintro H3 ⟨F3, M3, ts3, acc3, accV3, a1, a2, a3, a4, a5⟩
        exact ⟨m, Nat.lt_succ_self m, F3, M3, ts3, acc3, accV3, a1, a2, a3, a4, by omega, a5⟩
      · intro x H3 y
        obtain ⟨F3, s3, rx, st3⟩ := src.yld i _ F2 M2 _ H' _ _ x H3 s2 st2 (List.getElem?_eq_getElem hi) y
        cases q2 : put ds[i] (wipeT ts2 vs) with
        | none => rw [q2] at k2; exact k2.elim
        | some ts3 =>
          rw [q2] at k2
          dsimp only at k2
          refine ⟨F3, M2, _, _, ds[i], ts3, st3, rx, q2, fun M4 σ4 st4 p4 => ?_⟩
          have l2 : ts2.length = σ.length := by
            have := st2.len
            rw [wipe_length, wipeT_length] at this
            exact this.symm
          have l4 : σ4.length = σ.length := by
            rw [st4.len, hput _ _ _ q2, wipeT_length, l2]
          have hw : wipe σ4 vs = wipe σ vs := wipe_eq l4 (by rw [hσ]; exact p4)
          refine ⟨hw, F3, M4, _, ts3, st4, ?_⟩
          cases q3 : mc ts3 with
          | bad => rw [q3] at k2; exact k2.elim
          | ex c ts5 => rw [q3] at k2; exact k2.elim
          | ok b ts5 =>
            rw [q3] at k2
            dsimp only at k2
            intro F5 M5 H5 s5 st5
            cases b with
            | false =>
              simp only [Bool.false_eq_true, if_false] at k2 ⊢
              have st6 := st5.wipe vs
              rw [hw] at st6
              refine ⟨F5, M5, ts5, acc, accV, (s2.trans s3).trans s5, dj2, st6, ra.mono (s3.trans s5), ?_⟩
              show match compR vs put mc me (ds.drop (i + 1)) ts5 with
                | .ok l ts' => _
                | _ => False
              revert k2
              show (match compR vs put mc me (ds.drop (i + 1)) ts5 with
                | .ok l ts' => _
                | _ => False) → _
              cases compR vs put mc me (ds.drop (i + 1)) ts5 with
              | ok l ts' => exact fun ⟨h1, h2⟩ => ⟨h1, fun F'' Mv M' H' v s => h2 F'' Mv M' H' v ((s3.trans s5).trans s)⟩
              | ex c ts' => exact fun z => z
              | bad => exact fun z => z
            | true =>
              simp only [if_true] at k2 ⊢
              refine ⟨F5, M5, _, ts5, st5, ?_⟩
              cases q4 : me ts5 with
              | bad => rw [q4] at k2; exact k2.elim
              | ex c ts6 => rw [q4] at k2; exact k2.elim
              | ok yd ts6 =>
                rw [q4] at k2
                dsimp only at k2
                intro F6 M6 H6 yv s6 ry st6
                have hc := st6.hc
                have hD : H6 Da = some (.lst accV) := hc.gh _ _ (jn_l _ _ upd_same)
                have DM : M6 Da = none := hc.mg.ne' (jn_l _ _ upd_same)
                have DF : F6 Da = none := hc.fg.ne' (jn_l _ _ upd_same)
                have DG : G Da = none := dj2.ne upd_same
                have dj6 : Dj (upd Ar.em Da (.lst (accV ++ [yv]))) G := dj_upd_l Dj.em_l DG
                cases q5 : compR vs put mc me (ds.drop (i + 1)) ts6 with
                | bad => rw [q5] at k2; exact k2.elim
                | ex c ts7 => rw [q5] at k2; exact k2.elim
                | ok l ts7 =>
                  rw [q5] at k2
                  obtain ⟨h1, h2⟩ := k2
                  have h3 : acc.length + (l.length + 1) ≤ lim := by simpa using h1
                  refine ⟨accV, hD, lim_lt' (by rw [ra.length]; omega), F6, M6, ts6, acc ++ [yd], accV ++ [yv], ((s2.trans s3).trans s5).trans s6, dj6, ?_, (ra.mono ((s3.trans s5).trans s6)).append (.cons ry .nil), ?_⟩
                  · have st7 := st6.wipe vs
                    rw [hw] at st7
                    have off : ∀ {A : Hp}, A Da = none → Same A H6 → Same A (upd H6 Da (.lst (accV ++ [yv]))) := fun {A} a s b o e => by rw [upd_ne (ne_of_none e a)]; exact s _ _ e
                    refine st7.more (Same.refl _) ⟨off DF hc.fh, off DM hc.mh, jn_sub (same_upd_l Same.empty upd_same) (off DG ((jn_r dj2).trans hc.gh)), hc.fm, dj_jn_r (dj_upd_l Dj.em_l DF).symm (hc.fg.sub (Same.refl _) (jn_r dj2)), dj_jn_r (dj_upd_l Dj.em_l DM).symm (hc.mg.sub (Same.refl _) (jn_r dj2)), hc.ft.cell fun _ z => by cases z⟩
                  · rw [q5]
                    refine ⟨by simpa using h1, fun F'' Mv M' H'' v s => ?_⟩
                    rw [List.append_assoc]
                    exact h2 F'' Mv M' H'' v (((s3.trans s5).trans s6).trans s)
theorem comp_core (hput : ∀ d ts ts', put d ts = some ts' → ts'.length = ts.length) {σ : L2.St} (hσ : σ.length = X.N.length) {H : Hp} {Q : VK} {vs : List Nat} (h : tD (gx X) W (compM mi vs put mc me) σ H Q) :
    tLc (tI (gx X) W mi) (gD (gx X) (others X.N.length vs) put) (tB (gx X) W0 mc) (tZ (gx X) W0 me) vs σ H Q := by
  obtain ⟨F, Mm, G, ts, st, k⟩ := h
  exact ⟨F, Mm, G, ts, st, comp_coreK hput hσ st k⟩
end
end Ar
/-! ArK: comprehensions as rules, methods of owned lists, d[k] = v, slices, isinstance. -/
namespace Ar
open PySem PySem.Spec PyProof.Rows L2
section
variable {X : Cx} {W : WX} {bs : List Nat}
theorem pts_nilB {g : Gx} : PTs X [] (tB g W0 (M.ret true)) := ⟨fun pins s σ H Q I h => pts_nil.run pins s σ H Q I (by
  obtain ⟨F, Mm, G, ts, st, k⟩ := h
  exact k F Mm H (Same.refl _) st)⟩
theorem pts_oneB {g : Gx} {c : Expr} {m : M Bool} (h : PT X c (tB g W0 m)) : PTs X [c] (tB g W0 m) := pts_one h
theorem pe_compM {elt tg iter : Expr} {ifs : List Expr} {scope : Scope} {own : List (Str × Nat)} {pos : Pos} {mi : M (List D)} {put : D → List T → Option (List T)} {mc : M Bool} {me : M D}
    (hc : X.calm = true) (hN : X.N.Nodup) (hi : PI X tg iter (tI (gx X) W mi)) (ok : BlkOk X.N X.env.scope scope own)
    (hg : ∀ (s : Shared) (H : Hp) (C : Addr) (cl : List (Str × Addr)) (fp : List Addr), PG (X.blk s H scope (compEnvC scope cl C X.env) fp) tg (gD (gx X) (others X.N.length (own.map (·.2))) put))
    (ht : ∀ (s : Shared) (H : Hp) (C : Addr) (cl : List (Str × Addr)) (fp : List Addr), PTs (X.blk s H scope (compEnvC scope cl C X.env) fp) ifs (tB (gx X) W0 mc))
    (he : ∀ (s : Shared) (H : Hp) (C : Addr) (cl : List (Str × Addr)) (fp : List Addr), PE (X.blk s H scope (compEnvC scope cl C X.env) fp) elt (tZ (gx X) W0 me)) (hs : ∀ x, foldedSetIterable iter X.env x = pure x)
    (hput : ∀ d ts ts', put d ts = some ts' → ts'.length = ts.length) : PE X (.ListComp elt [⟨tg, iter, ifs, 0⟩] scope pos) (tD (gx X) W (compM mi (own.map (·.2)) put mc me)) :=
  ⟨fun pins s σ H Q I h => (pe_lc hc hN hi ok hg ht he hs).run pins s σ H Q I (comp_core hput I.len h)⟩
theorem ps_setCompM {i : Nat} {y : Str} {py spos : Pos} {elt tg iter : Expr} {ifs : List Expr} {scope : Scope} {own : List (Str × Nat)} {pos : Pos} {mi : M (List D)} {put : D → List T → Option (List T)} {mc : M Bool} {me : M D}
    (hc : X.calm = true) (hN : X.N.Nodup) (hy : X.N[i]? = some y) (hyl : X.env.scope.names.lookup y = some .local)
    (hsw : swapsWith (.ListComp elt [⟨tg, iter, ifs, 0⟩] scope pos) (some (.Name y py)) spos.line X.env = pure true) (hi : PI X tg iter (tI (gx X) W mi)) (ok : BlkOk X.N X.env.scope scope own)
    (hg : ∀ (s : Shared) (H : Hp) (C : Addr) (cl : List (Str × Addr)) (fp : List Addr), PG (X.blk s H scope (compEnvC scope cl C X.env) fp) tg (gD (gx X) (others X.N.length (own.map (·.2))) put))
    (ht : ∀ (s : Shared) (H : Hp) (C : Addr) (cl : List (Str × Addr)) (fp : List Addr), PTs (X.blk s H scope (compEnvC scope cl C X.env) fp) ifs (tB (gx X) W0 mc))
    (he : ∀ (s : Shared) (H : Hp) (C : Addr) (cl : List (Str × Addr)) (fp : List Addr), PE (X.blk s H scope (compEnvC scope cl C X.env) fp) elt (tZ (gx X) W0 me)) (hs : ∀ x, foldedSetIterable iter X.env x = pure x)
    (hput : ∀ d ts ts', put d ts = some ts' → ts'.length = ts.length) (hb : i ∉ bs) : PS X (.Assign [.Name y py] (.ListComp elt [⟨tg, iter, ifs, 0⟩] scope pos) spos) (tS (gx X) W bs (setS i (compM mi (own.map (·.2)) put mc me))) :=
  ⟨fun pins s σ H D I ⟨F, Mm, G, ts, sa, k⟩ => (ps_setLc hc hN hy hyl hsw hi ok hg ht he hs).run pins s σ H D I (comp_core (W := W) hput I.len (Q := fun x H1 => gName i x σ H1 D.nx) (tD_S sa k fun t ts1 _ k1 F1 Mv M1 H1 v s1 r st1 dj => by
    by_cases hl : i < ts1.length
    · rw [if_pos hl] at k1
      obtain ⟨M', st2⟩ := st1.assign r dj hl
      exact k1 F1 M' H1 _ s1 st2 (Pin.set hb)
    · rw [if_neg hl] at k1; exact k1.elim))⟩
mutual
theorem put_length : ∀ (t : Tg) (d : D) (ts ts' : List T), t.put d ts = some ts' → ts'.length = ts.length
  | .n i, d, ts, ts', h => by
    rw [Tg.put] at h
    split at h
    · cases h; rw [List.length_set]
    · cases h
  | .t l, d, ts, ts', h => by
    rw [Tg.put] at h
    split at h
    · exact puts_len l _ _ _ h
    · cases h
theorem puts_len : ∀ (l : List Tg) (ds : List D) (ts ts' : List T), Tg.puts l ds ts = some ts' → ts'.length = ts.length
  | [], [], ts, ts', h => by rw [Tg.puts] at h; cases h; rfl
  | g :: gs, d :: ds, ts, ts', h => by
    rw [Tg.puts] at h
    cases e1 : g.put d ts with
    | none => rw [e1] at h; cases h
    | some ts1 => rw [e1] at h; rw [puts_len gs ds ts1 ts' h, put_length g d ts ts1 e1]
  | [], _ :: _, _, _, e => by rw [Tg.puts] at e; cases e; all_goals simp
  | _ :: _, [], _, _, e => by rw [Tg.puts] at e; cases e; all_goals simp
end
/-! ### an owned object that a slot holds is changed -/
theorem Sta.close {g : Gx} {F Mm Mv G H M1 M2 Mc Mc' Mr : Hp} {σ : L2.St} {ts : List T} {i : Nat} {v : V} {vs : List V} {a : Addr} {o o' : HO} {t' : T} (st : Sta g F Mm (jn Mv G) H σ ts) (d : Dj Mv G) (e1 : σ[i]? = some (some v))
    (s1 : Same M1 Mm) (s2 : Same M2 Mm) (dd : Dj M1 M2) (q : ∀ (k : Nat) (v : V) (t : T), vs[k]? = some v → ts[k]? = some t → t = .gone ∨ σ[k]? = some (some v))
    (back : ∀ F' M1' v' t' M', Same F F' → RO g F' M1' v' t' → Dj M1' M2 → Same M1' M' → Same M2 M' → ROs g F' M' (vs.set i v') (ts.set i t'))
    (ha : M1 a = some o) (sc : Same Mc M1) (ca : Mc a = none) (h1 : Same Mc' (jn Mc Mv)) (h2 : Same Mr (jn Mc Mv)) (h3 : Dj Mc' Mr) (r : RO g F (upd Mc' a o') v t') (nt : ∀ xs, o' ≠ .tup xs := by intro _ z; cases z) :
    ∃ M', Sta g F M' (jn Mr G) (upd H a o') σ (ts.set i t') ∧ Dj Mr G := by
  have hc := st.hc
  have dv1 : Dj Mv M1 := (hc.mg.sub s1 jn_l).symm
  have dv2 : Dj Mv M2 := (hc.mg.sub s2 jn_l).symm
  have va : Mv a = none := dv1.ne' ha
  have aG : G a = none := (hc.mg.sub s1 (jn_r d)).ne ha
  have aF : F a = none := hc.fm.ne' (s1 _ _ ha)
  have a2 : M2 a = none := dd.ne ha
  have dcv : Dj (jn Mc Mv) G := dj_jn (hc.mg.sub (sc.trans s1) (jn_r d)) d
  have dcF : Dj F (jn Mc Mv) := dj_jn_r (hc.fm.sub (Same.refl _) (sc.trans s1)) (hc.fg.sub (Same.refl _) jn_l)
  have dc2 : Dj (jn Mc Mv) M2 := dj_jn (dd.sub sc (Same.refl _)) dv2
  have jH : Same (jn Mc Mv) H := jn_sub ((sc.trans s1).trans hc.mh) (jn_l.trans hc.gh)
  have ja : (jn Mc Mv) a = none := jn_none ca va
  have off : ∀ {A : Hp}, A a = none → Same A H → Same A (upd H a o') := fun {A} n s b x e => by rw [upd_ne (ne_of_none e n)]; exact s _ _ e
  have c'a : Mc' a = none := h1.free ja
  have ra : Mr a = none := h2.free ja
  have dN2 : Dj (upd Mc' a o') M2 := dj_upd_l (dc2.sub h1 (Same.refl _)) a2
  refine ⟨jn (upd Mc' a o') M2, st.put (Same.refl _) e1 q (back F (upd Mc' a o') v t' (jn (upd Mc' a o') M2) (Same.refl _) r dN2 jn_l (jn_r dN2)) ?_, dcv.sub h2 (Same.refl _)⟩
  exact ⟨off aF hc.fh, jn_sub (same_upd_l (off c'a (h1.trans jH)) upd_same) (off a2 (s2.trans hc.mh)), jn_sub (off ra (h2.trans jH)) (off aG ((jn_r d).trans hc.gh)),
    dj_jn_r (dj_upd_l (dcF.symm.sub h1 (Same.refl _)) aF).symm (hc.fm.sub (Same.refl _) s2), dj_jn_r (dcF.sub (Same.refl _) h2) (hc.fg.sub (Same.refl _) (jn_r d)),
    dj_jn (dj_jn_r (dj_upd_l h3 ra) (dj_upd_l (dcv.sub h1 (Same.refl _)) aG)) (dj_jn_r (dc2.symm.sub (Same.refl _) h2) (hc.mg.sub s2 (jn_r d))), hc.ft.cell nt⟩
/-- the owned list in a slot, and how it is changed -/
theorem Sta.lst {g : Gx} {F Mm Mv G H : Hp} {σ : L2.St} {ts : List T} {i : Nat} {xs : List T} (st : Sta g F Mm (jn Mv G) H σ ts) (d : Dj Mv G) (e : ts[i]? = some (.l xs)) :
    ∃ a ws Mc, σ[i]? = some (some (.ref a)) ∧ H a = some (.lst ws) ∧ ROs g F Mc ws xs ∧ Dj Mc Mv ∧
      ∀ us ys Mc' Mr, ROs g F Mc' us ys → Same Mc' (jn Mc Mv) → Same Mr (jn Mc Mv) → Dj Mc' Mr → ∃ M', Sta g F M' (jn Mr G) (upd H a (.lst us)) σ (ts.set i (.l ys)) ∧ Dj Mr G := by
  obtain ⟨v, M1, M2, vs, e1, r, s1, s2, dd, q, ev, back⟩ := st.slot e (fun z => nomatch z)
  have hc := st.hc
  cases r with
  | @l _ Mc a ws _ h1 h2 h3 h4 =>
    have dv1 : Dj Mv M1 := (hc.mg.sub s1 jn_l).symm
    have va : Mv a = none := dv1.ne' h1
    refine ⟨a, ws, Mc, e1, hc.mh _ _ (s1 _ _ h1), h4, dv1.symm.sub h2 (Same.refl _), fun us ys Mc' Mr ru k1 k2 k3 => ?_⟩
    have c'a : Mc' a = none := k1.free (jn_none h3 va)
    exact st.close d e1 s1 s2 dd q back h1 h2 h3 k1 k2 k3 (.l (M' := Mc') upd_same (same_upd c'a) c'a ru)
theorem Sta.dkt {g : Gx} {F Mm Mv G H : Hp} {σ : L2.St} {ts : List T} {i : Nat} {xs : List (Key × T)} (st : Sta g F Mm (jn Mv G) H σ ts) (d : Dj Mv G) (e : ts[i]? = some (.dk xs)) :
    ∃ (a : Addr) (kvs : List (Key × V)) (Mc : Hp), σ[i]? = some (some (.ref a)) ∧ H a = some (.dK kvs) ∧ kvs.map (·.1) = xs.map (·.1) ∧ ROs g F Mc (kvs.map (·.2)) (xs.map (·.2)) ∧ Dj Mc Mv ∧
      ∀ (kus : List (Key × V)) (ys : List (Key × T)) (Mc' Mr : Hp), kus.map (·.1) = ys.map (·.1) → ROs g F Mc' (kus.map (·.2)) (ys.map (·.2)) → Same Mc' (jn Mc Mv) → Same Mr (jn Mc Mv) → Dj Mc' Mr → ∃ M', Sta g F M' (jn Mr G) (upd H a (.dK kus)) σ (ts.set i (.dk ys)) ∧ Dj Mr G := by
  obtain ⟨v, M1, M2, vs, e1, r, s1, s2, dd, q, ev, back⟩ := st.slot e (fun z => nomatch z)
  have hc := st.hc
  cases r with
  | @dk _ Mc a kvs _ h1 h2 h3 h4 h5 =>
    have dv1 : Dj Mv M1 := (hc.mg.sub s1 jn_l).symm
    have va : Mv a = none := dv1.ne' h1
    refine ⟨a, kvs, Mc, e1, hc.mh _ _ (s1 _ _ h1), h4, h5, dv1.symm.sub h2 (Same.refl _), fun kus ys Mc' Mr hk ru k1 k2 k3 => ?_⟩
    have c'a : Mc' a = none := k1.free (jn_none h3 va)
    exact st.close d e1 s1 s2 dd q back h1 h2 h3 k1 k2 k3 (.dk (M' := Mc') upd_same (same_upd c'a) c'a hk ru)
theorem Sta.dtt {g : Gx} {F Mm Mv G H : Hp} {σ : L2.St} {ts : List T} {i : Nat} {xs : List (List Key × D)} (st : Sta g F Mm (jn Mv G) H σ ts) (d : Dj Mv G) (e : ts[i]? = some (.dt xs)) :
    ∃ (a : Addr) (kvs : List (List Key × V)), σ[i]? = some (some (.ref a)) ∧ H a = some (.dT kvs) ∧ kvs.map (·.1) = xs.map (·.1) ∧ RpAll g F (kvs.map (·.2)) (xs.map (·.2)) ∧
      ∀ (kus : List (List Key × V)) (ys : List (List Key × D)), kus.map (·.1) = ys.map (·.1) → RpAll g F (kus.map (·.2)) (ys.map (·.2)) → ∃ M', Sta g F M' (jn em G) (upd H a (.dT kus)) σ (ts.set i (.dt ys)) ∧ Dj em G := by
  obtain ⟨v, M1, M2, vs, e1, r, s1, s2, dd, q, ev, back⟩ := st.slot e (fun z => nomatch z)
  have hc := st.hc
  cases r with
  | @dt _ a kvs _ h1 h2 h3 =>
    refine ⟨a, kvs, e1, hc.mh _ _ (s1 _ _ h1), h2, h3, fun kus ys hk ru => ?_⟩
    exact st.close (Mc := em) (Mc' := em) (Mr := em) d e1 s1 s2 dd q back h1 Same.empty rfl Same.empty Same.empty Dj.em_l (.dt upd_same hk ru)
/-! ### methods -/
theorem few1 {e : Expr} (h : nst e = true) (env : Env) (cpos : Pos) : ((backTo cpos (starEach [e] env)).all (fun x => !x.1) && (backToKw cpos (keywordEach [] env)).all (fun x => x.1.isSome)
      && decide (([e] : List Expr).length + ([] : List Keyword).length + (if ([] : List Keyword).isEmpty then 0 else 1) < 30)) = true := by
  rw [star_of h]; rfl
theorem few2 {e f : Expr} (h : nst e = true) (h2 : nst f = true) (env : Env) (cpos : Pos) : ((backTo cpos (starEach [e, f] env)).all (fun x => !x.1) && (backToKw cpos (keywordEach [] env)).all (fun x => x.1.isSome)
      && decide (([e, f] : List Expr).length + ([] : List Keyword).length + (if ([] : List Keyword).isEmpty then 0 else 1) < 30)) = true := by
  rw [star_of h, star_of h2]; rfl
variable {e f : Expr} {x : Str} {p apos cpos : Pos} {i : Nat}
/-- the row of one argument, owned -/
def isL (i : Nat) (ts : List T) : Bool := match ts[i]? with
  | some (.l _) => true
  | _ => false
theorem isL_eq {i : Nat} {ts : List T} (h : isL i ts = true) : ∃ xs, ts[i]? = some (.l xs) := by
  unfold isL at h
  split at h
  · exact ⟨_, by assumption⟩
  · cases h
def appM (i : Nat) (m : M T) : M T := fun ts => if isL i ts = true then (m >>= fun t ts1 => match ts1[i]? with
    | some (.l xs) => if xs.length < lim then .ok (.z .non) (ts1.set i (.l (xs ++ [t]))) else .bad
    | _ => .bad) ts else .bad
theorem tyL {g : Gx} {H : Hp} {a : Addr} {xs : List V} (h : H a = some (.lst xs)) : tyV g.K "list" (.ref a) H := .inl ⟨rfl, _, .of h⟩
theorem pe_appM {m : M T} (hN : X.N[i]? = some x) (hv : Vis X.env.scope x) (hd : (x == ("__debug__" : Str)) = false) (hcd : (x == ("__classdict__" : Str)) = false) (he : PE X e (tD (gx X) W m)) (n : nst e = true) (hl : (apos.endLine == cpos.line) = true) :
    PE X (.Call (.Attribute (.Name x p) "append" apos) [e] [] cpos) (tD (gx X) W (appM i m)) :=
  pe_imp (pe_bm PySem.F.plainAttrs_list PySem.F.slot_list_append PySem.F.type_list_append mt_append (pe_var hN hv hd hcd) (pa_cons he pa_nil (star_of n _ _)) rfl (few1 n _ _) hl (star_of n _ _) rfl) fun σ H Q ⟨F, Mm, G, ts, st, k⟩ => by
    unfold appM at k
    by_cases hi : isL i ts = true
    · rw [if_pos hi] at k
      obtain ⟨xs0, e0⟩ := isL_eq hi
      obtain ⟨a, ws0, Mc0, e1, hH, _⟩ := Sta.lst (Mv := em) st Dj.em_l e0
      refine ⟨.ref a, e1, tyL (g := gx X) hH, ?_⟩
      refine tD_then (K := KD (gx X) W F G σ Q) st id (fun _ _ z => z) k fun t ts1 _ k1 F1 Mv M1 H1 v s1 r st1 dj => ?_
      cases q : ts1[i]? with
      | none => simp only [q] at k1; exact k1.elim
      | some u =>
        cases u with
        | l xs =>
          simp only [q] at k1
          by_cases hz : xs.length < lim
          · rw [if_pos hz] at k1
            obtain ⟨a', ws, Mc, e2, hH1, rs, dc, fin⟩ := st1.lst dj q
            rw [e1] at e2; cases e2
            obtain ⟨M', st2, dj2⟩ := fin (ws ++ [v]) (xs ++ [t]) (jn Mc Mv) em (rs.append (.cons (M1 := Mv) (M2 := em) r .nil (Same.refl _) Same.empty Dj.em_r) dc jn_l (jn_r dc)) (Same.refl _) Same.empty Dj.em_r
            exact ⟨a, ws, v, rfl, rfl, hH1, by rw [rs.length]; exact lim_lt' hz, k1 F1 em M' _ _ s1 (.z .non) st2 Dj.em_l⟩
          · rw [if_neg hz] at k1; exact k1.elim
        | _ => simp only [q] at k1; exact k1.elim
    · rw [if_neg hi] at k; exact k.elim
/-- x.pop(e) of an owned list -/
def popM (i : Nat) (m : M D) : M T := fun ts => if isL i ts = true then (m >>= fun d ts1 => match d with
    | .int j => match ts1[i]? with
      | some (.l xs) => if big62 j then (match ixN xs.length j with
        | some k => match xs[k]? with
          | some t => .ok t (ts1.set i (.l (xs.eraseIdx k)))
          | none => .bad
        | none => .bad) else .bad
      | _ => .bad
    | _ => .bad) ts else .bad
theorem ROs.erase {g : Gx} {F : Hp} : ∀ {M : Hp} {vs : List V} {ts : List T} {k : Nat} {t : T}, ROs g F M vs ts → ts[k]? = some t →
    ∃ v A B, vs[k]? = some v ∧ RO g F A v t ∧ ROs g F B (vs.eraseIdx k) (ts.eraseIdx k) ∧ Same A M ∧ Same B M ∧ Dj A B
  | _, _, _, k, _, .nil, e => by simp at e
  | M, _, _, 0, t, .cons (M1 := A) (M2 := B) (v := v) h1 h2 h3 h4 h5, e => by
    simp at e; subst e
    exact ⟨v, A, B, rfl, h1, h2, h3, h4, h5⟩
  | M, _, _, k + 1, t, .cons (M1 := A) (M2 := B) (v := v) h1 h2 h3 h4 h5, e => by
    obtain ⟨u, C, D', e1, r, rs, s1, s2, d⟩ := ROs.erase (k := k) (t := t) h2 (by simpa using e)
    have dA : Dj A D' := h5.sub (Same.refl _) s2
    refine ⟨u, C, jn A D', by simpa using e1, r, .cons (M1 := A) (M2 := D') h1 rs jn_l (jn_r dA) dA, s1.trans h4, jn_sub h3 (s2.trans h4), dj_jn_r (h5.sub (Same.refl _) s1).symm d⟩
theorem pe_popM {m : M D} (hN : X.N[i]? = some x) (hv : Vis X.env.scope x) (hd : (x == ("__debug__" : Str)) = false) (hcd : (x == ("__classdict__" : Str)) = false) (he : PE X e (tZ (gx X) W m)) (n : nst e = true) (hl : (apos.endLine == cpos.line) = true) :
    PE X (.Call (.Attribute (.Name x p) "pop" apos) [e] [] cpos) (tD (gx X) W (popM i m)) :=
  pe_imp (pe_bm PySem.F.plainAttrs_list PySem.F.slot_list_pop PySem.F.type_list_pop mt_popAt (pe_var hN hv hd hcd) (pa_cons he pa_nil (star_of n _ _)) rfl (few1 n _ _) hl (star_of n _ _) rfl) fun σ H Q ⟨F, Mm, G, ts, st, k⟩ => by
    unfold popM at k
    by_cases hi : isL i ts = true
    · rw [if_pos hi] at k
      obtain ⟨xs0, e0⟩ := isL_eq hi
      obtain ⟨a, ws0, Mc0, e1, hH, _⟩ := Sta.lst (Mv := em) st Dj.em_l e0
      refine ⟨.ref a, e1, tyL (g := gx X) hH, ?_⟩
      refine tZ_then (K := KD (gx X) W F G σ Q) st id (fun _ _ z => z) k fun d ts1 _ k1 F1 M1 H1 v s1 r st1 => ?_
      cases d with
      | int j =>
        cases r
        dsimp only at k1
        cases q : ts1[i]? with
        | none => simp only [q] at k1; exact k1.elim
        | some u =>
          cases u with
          | l xs =>
            simp only [q] at k1
            by_cases hb : big62 j
            · rw [if_pos hb] at k1
              cases q2 : ixN xs.length j with
              | none => rw [q2] at k1; exact k1.elim
              | some kk =>
                rw [q2] at k1
                dsimp only at k1
                cases q3 : xs[kk]? with
                | none => rw [q3] at k1; exact k1.elim
                | some t =>
                  rw [q3] at k1
                  obtain ⟨a', ws, Mc, e2, hH1, rs, dc, fin⟩ := Sta.lst (Mv := em) st1 Dj.em_l q
                  rw [e1] at e2; cases e2
                  obtain ⟨w, A, B, e3, rw', rs', sA, sB, dAB⟩ := rs.erase q3
                  obtain ⟨M', st2, dj2⟩ := fin (ws.eraseIdx kk) (xs.eraseIdx kk) B A rs' (sB.trans jn_l) (sA.trans jn_l) dAB.symm
                  obtain ⟨b1, b2⟩ := hb
                  exact ⟨a, ws, j, kk, w, rfl, rfl, hH1, by omega, by omega, by rw [rs.length]; exact (ixN_seq q2).1, e3, k1 F1 A M' _ _ s1 rw' st2 dj2⟩
            · rw [if_neg hb] at k1; exact k1.elim
          | _ => simp only [q] at k1; exact k1.elim
      | _ => exact k1.elim
    · rw [if_neg hi] at k; exact k.elim
/-- x[k] = e, x an owned list or dict -/
def rSetD : TSet := fun o i v H Q => ∃ a H4, o = .ref a ∧ DPut H a i v H4 ∧ Q H4
theorem set_dict (hu : X.A.units + 1 < cLine) : PSet X rSetD := by
  intro pins s σ H o i v ov iv u Q I ro ri rv h
  obtain ⟨a, H4, rfl, d, q⟩ := h
  cases ro
  exact d_setItem hu I d ri rv fun s4 I4 => ⟨H4, I4, q⟩
def rSetAll : TSet := fun o i v H Q => rSetL o i v H Q ∨ rSetD o i v H Q
theorem set_all (hu : X.A.units + 1 < cLine) : PSet X rSetAll := by
  intro pins s σ H o i v ov iv u Q I ro ri rv h
  rcases h with h | h
  · exact set_list pins s σ H o i v ov iv u Q I ro ri rv h
  · exact set_dict hu pins s σ H o i v ov iv u Q I ro ri rv h
def putT (k : Key) (t : T) (kvs : List (Key × T)) : List (Key × T) := if kvs.any (fun p => decide (p.1 = k)) = true then kvs.map (fun p => if p.1 = k then (p.1, t) else p) else kvs ++ [(k, t)]
def putD (k : List Key) (t : D) (kvs : List (List Key × D)) : List (List Key × D) := if kvs.any (fun p => decide (p.1 = k)) = true then kvs.map (fun p => if p.1 = k then (p.1, t) else p) else kvs ++ [(k, t)]
def setAt (d : D) (t : T) : T → Option T
  | .l xs => match toI d with
    | some j => (match ixN xs.length j with | some k => some (.l (xs.set k t)) | none => none)
    | none => none
  | .dk kvs => match D.key d with
    | some k => if kvs.length < lim ∧ (t.isZ = true ∨ (kvs.map (·.1)).Nodup) then some (.dk (putT k t kvs)) else none
    | none => none
  | .dt kvs => match D.tkey d with
    | some k => (match t with | .z y => if kvs.length < lim then some (.dt (putD k y kvs)) else none | _ => none)
    | none => none
  | _ => none
def isC (i : Nat) (ts : List T) : Bool := match ts[i]? with
  | some (.l _) => true
  | some (.dk _) => true
  | some (.dt _) => true
  | _ => false
def stM (i : Nat) (mk : M D) (me : M T) : S := bindS me fun t ts1 => if isC i ts1 = true then bindS mk (fun d ts2 => match ts2[i]? with
  | some u => match setAt d t u with
    | some u' => .nx (ts2.set i u')
    | none => .bad
  | none => .bad) ts1 else .bad
theorem KX.frame {g : Gx} {F G Mv : Hp} {σ : L2.St} {c : Str} {ts : List T} (h : KX g W F G σ c ts) (d : Dj Mv G) : KX g W F (jn Mv G) σ c ts := fun F' M' H' C s st e => h F' M' H' C s (st.drop d) e
theorem ROs.setR {g : Gx} {F A B M : Hp} {vs : List V} {ts : List T} {k : Nat} {v : V} {t : T} (r : ROs g F A vs ts) (hk : k < ts.length) (rv : RO g F B v t) (d : Dj A B) (s1 : Same A M) (s2 : Same B M) : ROs g F M (vs.set k v) (ts.set k t) := by
  obtain ⟨w, M1, M2, e1, _, a1, a2, dd, back⟩ := r.pick (List.getElem?_eq_getElem hk)
  exact back F B v t M (Same.refl _) rv (d.symm.sub (Same.refl _) a2) s2 (a2.trans s1)
theorem any_keys {α β : Type} {k : Key} : ∀ {xs : List (Key × α)} {ys : List (Key × β)}, xs.map (·.1) = ys.map (·.1) → xs.any (fun p => decide (p.1 = k)) = ys.any (fun p => decide (p.1 = k))
  | [], [], _ => rfl
  | x :: xs, y :: ys, e => by
    rw [List.map_cons, List.map_cons] at e
    injection e with e1 e2
    rw [List.any_cons, List.any_cons, any_keys e2, e1]
  | [], _ :: _, e => by cases e
  | _ :: _, [], e => by cases e
theorem ROs.repl {g : Gx} {F B : Hp} {k : Key} {v : V} {t : T} (rv : RO g F B v t) : ∀ {M A : Hp} {xs : List (Key × V)} {ys : List (Key × T)}, xs.map (·.1) = ys.map (·.1) → (xs.map (·.1)).Nodup → ROs g F A (xs.map (·.2)) (ys.map (·.2)) → Dj A B → Same A M → Same B M →
    ROs g F M ((xs.map fun p => if p.1 = k then (p.1, v) else p).map (·.2)) ((ys.map fun p => if p.1 = k then (p.1, t) else p).map (·.2))
  | M, A, [], [], _, _, _, _, _, _ => .nil
  | M, A, (k1, x) :: xs, (k2, y) :: ys, e, nd, r, d, sA, sB => by
    rw [List.map_cons, List.map_cons] at e
    injection e with e1 e2
    simp only at e1
    subst e1
    rw [List.map_cons, List.nodup_cons] at nd
    cases r with
    | @cons _ C E _ _ _ _ h1 h2 h3 h4 h5 =>
      by_cases hk : k1 = k
      · have rest : ∀ {α : Type} (u : α) (zs : List (Key × α)), k1 ∉ zs.map (·.1) → (zs.map fun p => if p.1 = k then (p.1, u) else p) = zs := fun u zs h => by
          refine (List.map_congr_left fun p hp => ?_).trans (List.map_id _)
          have : ¬ p.1 = k := fun q => h (by rw [hk, ← q]; exact List.mem_map_of_mem hp)
          rw [if_neg this]; rfl
        have n2 : k1 ∉ ys.map (·.1) := by rw [← e2]; exact nd.1
        simp only [List.map_cons, if_pos hk]
        rw [rest v xs nd.1, rest t ys n2]
        exact .cons (M1 := B) (M2 := E) rv h2 sB (h4.trans sA) (d.sub h4 (Same.refl _)).symm
      · simp only [List.map_cons, if_neg hk]
        have dC : Dj C B := d.sub h3 (Same.refl _)
        have dE : Dj E B := d.sub h4 (Same.refl _)
        exact .cons (M1 := C) (M2 := jn E B) h1 (ROs.repl rv e2 nd.2 h2 dE jn_l (jn_r dE)) (h3.trans sA) (jn_sub (h4.trans sA) sB) (dj_jn_r h5 dC)
  | _, _, [], _ :: _, e, _, _, _, _, _ => by cases e
  | _, _, _ :: _, [], e, _, _, _, _, _ => by cases e
theorem ROs.replZ {g : Gx} {F : Hp} {k : Key} {v : V} {d : D} (rv : Rp g F v d) : ∀ {A : Hp} {xs : List (Key × V)} {ys : List (Key × T)}, xs.map (·.1) = ys.map (·.1) → ROs g F A (xs.map (·.2)) (ys.map (·.2)) →
    ROs g F A ((xs.map fun p => if p.1 = k then (p.1, v) else p).map (·.2)) ((ys.map fun p => if p.1 = k then (p.1, T.z d) else p).map (·.2))
  | A, [], [], _, _ => .nil
  | A, (k1, x) :: xs, (k2, y) :: ys, e, r => by
    rw [List.map_cons, List.map_cons] at e
    injection e with e1 e2
    simp only at e1
    subst e1
    cases r with
    | @cons _ C E _ _ _ _ h1 h2 h3 h4 h5 =>
      by_cases hk : k1 = k
      · simp only [List.map_cons, if_pos hk]
        exact .cons (M1 := em) (M2 := E) (.z rv) (ROs.replZ rv e2 h2) Same.empty h4 Dj.em_l
      · simp only [List.map_cons, if_neg hk]
        exact .cons h1 (ROs.replZ rv e2 h2) h3 h4 h5
  | _, [], _ :: _, e, _ => by cases e
  | _, _ :: _, [], e, _ => by cases e
theorem putK_keys {α : Type} {k : Key} {v : V} {t : T} {xs : List (Key × V)} {ys : List (Key × T)} (e : xs.map (·.1) = ys.map (·.1)) : (putK xs k v).map (·.1) = (putT k t ys).map (·.1) := by
  unfold putK putT
  rw [any_keys e]
  split
  · have m : ∀ {β : Type} (u : β) (zs : List (Key × β)), (zs.map fun p => if p.1 = k then (p.1, u) else p).map (·.1) = zs.map (·.1) := fun u zs => by
      rw [List.map_map]
      refine List.map_congr_left fun p _ => ?_
      by_cases h : p.1 = k
      · simp [h]
      · simp [h]
    rw [m, m, e]
  · rw [List.map_append, List.map_append, e]; rfl
end
end Ar
/-! ArL: d[k] = v, slices, isinstance, a def's body. -/
namespace Ar
open PySem PySem.Spec PyProof.Rows L2
section
variable {X : Cx} {W : WX} {bs : List Nat} {e f kx : Expr} {x : Str} {p apos cpos pos pos' : Pos} {i : Nat}
theorem putD_rp {g : Gx} {F : Hp} {v : V} {d : D} : ∀ {ws : List (List Key × V)} {xs : List (List Key × D)}, ws.map (·.1) = xs.map (·.1) → RpAll g F (ws.map (·.2)) (xs.map (·.2)) → Rp g F v d → ∀ k : List Key,
    (putK ws k v).map (·.1) = (putD k d xs).map (·.1) ∧ RpAll g F ((putK ws k v).map (·.2)) ((putD k d xs).map (·.2)) := fun {ws xs} hk rs r k => by
  have anyk : ∀ {ws : List (List Key × V)} {xs : List (List Key × D)}, ws.map (·.1) = xs.map (·.1) → ws.any (fun p => decide (p.1 = k)) = xs.any (fun p => decide (p.1 = k)) := fun {ws} => by
    induction ws with
    | nil => intro xs e; cases xs with
      | nil => rfl
      | cons _ _ => cases e
    | cons w ws ih => intro xs e; cases xs with
      | nil => cases e
      | cons x xs =>
        rw [List.map_cons, List.map_cons] at e
        injection e with e1 e2
        rw [List.any_cons, List.any_cons, ih e2, e1]
  have repl : ∀ {ws : List (List Key × V)} {xs : List (List Key × D)}, ws.map (·.1) = xs.map (·.1) → RpAll g F (ws.map (·.2)) (xs.map (·.2)) →
      (ws.map fun p => if p.1 = k then (p.1, v) else p).map (·.1) = (xs.map fun p => if p.1 = k then (p.1, d) else p).map (·.1) ∧ RpAll g F ((ws.map fun p => if p.1 = k then (p.1, v) else p).map (·.2)) ((xs.map fun p => if p.1 = k then (p.1, d) else p).map (·.2)) := fun {ws} => by
    induction ws with
    | nil => intro xs e _; cases xs with
      | nil => exact ⟨rfl, .nil⟩
      | cons _ _ => cases e
    | cons w ws ih => intro xs e rs; cases xs with
      | nil => cases e
      | cons x xs =>
        obtain ⟨w1, w2⟩ := w
        obtain ⟨x1, x2⟩ := x
        rw [List.map_cons, List.map_cons] at e
        injection e with e1 e2
        simp only at e1
        subst e1
        rw [List.map_cons, List.map_cons] at rs
        cases rs with
        | cons r1 r2 =>
          obtain ⟨a, b⟩ := ih e2 r2
          simp only [List.map_cons]
          by_cases q : w1 = k
          · rw [if_pos q, if_pos q]
            exact ⟨by rw [a], .cons r b⟩
          · rw [if_neg q, if_neg q]
            exact ⟨by rw [a], .cons r1 b⟩
  unfold putK putD
  rw [anyk hk]
  split
  · exact repl hk rs
  · refine ⟨by rw [List.map_append, List.map_append, hk]; rfl, ?_⟩
    rw [List.map_append, List.map_append]
    exact rs.append (.cons r .nil)
theorem ps_stM {mk : M D} {me : M T} (hu : X.A.units + 1 < cLine) (hN : X.N[i]? = some x) (hv : Vis X.env.scope x) (hd : (x == ("__debug__" : Str)) = false) (hcd : (x == ("__classdict__" : Str)) = false) (he : PE X e (tD (gx X) W me)) (hk : PE X kx (tZ (gx X) W mk))
    (hs : swapsWithSole [.Subscript (.Name x p) kx pos'] e pos.line X.env = pure false) (hw : swappedStores [.Subscript (.Name x p) kx pos'] e X.env = pure none)
    (ha : ∀ v, assign (.Subscript (.Name x p) kx pos') X.env v = (do
      let ov ← holding [v] (eval (.Name x p) X.env)
      let iv ← holding [v, ov] (eval kx X.env)
      standAt pos'
      holding [v, ov, iv] (setItem ov iv v)
      release [v, ov, iv] [])) :
    PS X (.Assign [.Subscript (.Name x p) kx pos'] e pos) (tS (gx X) W bs (stM i mk me)) :=
  ps_imp (ps_asg he (pg_sub (pe_var hN hv hd hcd) hk (set_all hu) ha) hs hw rfl) fun D σ H ⟨F, Mm, G, ts, sa, k⟩ => tD_S sa k fun t ts1 _ k1 F1 Mv M1 H1 v s1 r st1 dj => by
    by_cases hi : isC i ts1 = true
    · rw [if_pos hi] at k1
      have there : ∃ a, σ[i]? = some (some (.ref a)) := by
        unfold isC at hi
        split at hi
        · rename_i xs q; obtain ⟨a, _, _, h, _⟩ := st1.lst dj q; exact ⟨a, h⟩
        · rename_i xs q; obtain ⟨a, _, _, h, _⟩ := st1.dkt dj q; exact ⟨a, h⟩
        · rename_i xs q; obtain ⟨a, _, h, _⟩ := st1.dtt dj q; exact ⟨a, h⟩
        · cases hi
      obtain ⟨a, ea⟩ := there
      refine ⟨.ref a, ea, F1, M1, jn Mv G, ts1, st1, ?_⟩
      unfold bindS at k1
      cases q : mk ts1 with
      | bad => rw [q] at k1; exact k1
      | ex c ts2 => rw [q] at k1; exact (KX.mono s1 k1.kx).frame dj
      | ok d ts2 =>
        rw [q] at k1
        dsimp only at k1
        intro F2 M2 H2 kv s2 rk st2
        have rt := r.mono s2
        cases q2 : ts2[i]? with
        | none => rw [q2] at k1; exact k1.elim
        | some u =>
          rw [q2] at k1
          dsimp only at k1
          cases u with
          | l xs =>
            unfold setAt at k1
            cases q3 : toI d with
            | none => rw [q3] at k1; exact k1.elim
            | some j =>
              rw [q3] at k1
              dsimp only at k1
              cases q4 : ixN xs.length j with
              | none => rw [q4] at k1; exact k1.elim
              | some kk =>
                rw [q4] at k1
                dsimp only at k1
                obtain ⟨a', ws, Mc, e2, hH, rs, dc, fin⟩ := st2.lst dj q2
                rw [ea] at e2; cases e2
                rw [toI_eq q3] at rk
                cases rk
                obtain ⟨M', st3, _⟩ := fin (ws.set kk v) (xs.set kk t) (jn Mc Mv) em (rs.setR (ixN_seq q4).2.1 rt dc jn_l (jn_r dc)) (Same.refl _) Same.empty Dj.em_r
                exact .inl ⟨a, ws, j, kk, rfl, rfl, hH, by rw [rs.length]; exact q4, k1 F2 M' _ σ (s1.trans s2) st3 Pin.refl⟩
          | dk xs =>
            unfold setAt at k1
            cases q3 : Ar.D.key d with
            | none => rw [q3] at k1; exact k1.elim
            | some kk =>
              rw [q3] at k1
              dsimp only at k1
              by_cases hz : xs.length < lim ∧ (t.isZ = true ∨ (xs.map (·.1)).Nodup)
              · rw [if_pos hz] at k1
                dsimp only at k1
                obtain ⟨a', ws, Mc, e2, hH, hkeys, rs, dc, fin⟩ := st2.dkt dj q2
                rw [ea] at e2; cases e2
                have ek : kv = kV kk := by
                  rw [key_eq q3] at rk
                  exact rp_key rk
                subst ek
                have hlen : ws.length = xs.length := by rw [← List.length_map (f := (·.1)), hkeys, List.length_map]
                have hnew : ROs (gx X) F2 (jn Mc Mv) ((putK ws kk v).map (·.2)) ((putT kk t xs).map (·.2)) := by
                  unfold putK putT
                  rw [any_keys hkeys]
                  split
                  · rcases hz.2 with z | z
                    · cases t with
                      | z d0 =>
                        cases rt with
                        | z rt => exact (ROs.replZ rt hkeys rs).ext jn_l
                      | _ => cases z
                    · exact ROs.repl rt hkeys (by rw [hkeys]; exact z) rs dc jn_l (jn_r dc)
                  · rw [List.map_append, List.map_append]
                    exact rs.append (.cons (M1 := Mv) (M2 := em) rt .nil (Same.refl _) Same.empty Dj.em_r) dc jn_l (jn_r dc)
                obtain ⟨M', st3, _⟩ := fin (putK ws kk v) (putT kk t xs) (jn Mc Mv) em (putK_keys (α := Nat) hkeys) hnew (Same.refl _) Same.empty Dj.em_r
                exact .inr ⟨a, _, rfl, DPut.k hH (by rw [hlen]; exact lim_lt' hz.1), k1 F2 M' _ σ (s1.trans s2) st3 Pin.refl⟩
              · rw [if_neg hz] at k1; exact k1.elim
          | dt xs =>
            unfold setAt at k1
            cases q3 : Ar.D.tkey d with
            | none => rw [q3] at k1; exact k1.elim
            | some kk =>
              rw [q3] at k1
              dsimp only at k1
              cases t with
              | z y =>
                dsimp only at k1
                by_cases hz : xs.length < lim
                · rw [if_pos hz] at k1
                  dsimp only at k1
                  obtain ⟨a', ws, e2, hH, hkeys, rs, fin⟩ := st2.dtt dj q2
                  rw [ea] at e2; cases e2
                  obtain ⟨b, eb, hb⟩ := (Vh.r rk).tkey st2.hc.fh q3
                  subst eb
                  cases rt with
                  | z rt =>
                    have hlen : ws.length = xs.length := by rw [← List.length_map (f := (·.1)), hkeys, List.length_map]
                    obtain ⟨h1, h2⟩ := putD_rp (v := v) (d := y) hkeys rs rt kk
                    obtain ⟨M', st3, _⟩ := fin _ _ h1 h2
                    exact .inr ⟨a, _, rfl, DPut.t hH hb (by rw [hlen]; exact lim_lt' hz), k1 F2 M' _ σ (s1.trans s2) (by rw [jn_em] at st3; exact st3) Pin.refl⟩
                · rw [if_neg hz] at k1; exact k1.elim
              | _ => exact k1.elim
          | _ => exact k1.elim
    · rw [if_neg hi] at k1; exact k1.elim
/-! ### slices -/
def optI (m : Option (M D)) : M (Option Int) := match m with
  | none => M.ret none
  | some m => m >>= fun d => match toI d with | some i => M.ret (some i) | none => stop
def slM (ma : M D) (lo hi : Option (M D)) : M T := ma >>= fun d => optI lo >>= fun l => optI hi >>= fun h => opt (oSl d l h)
def tOp' (g : Gx) (W : WX) (m : M (Option Int)) : TO := fun σ H Q => ∃ F Mm G ts, Sta g F Mm G H σ ts ∧ match m ts with
  | .bad => False
  | .ok o ts' => ∀ F' M' H', Same F F' → Sta g F' M' G H' σ ts' → Q o H'
  | .ex c ts' => KX g W F G σ c ts'
theorem po_imp {o : Option Expr} {t t' : TO} (h : PO X o t) (i : ∀ σ H Q, t' σ H Q → t σ H Q) : PO X o t' := ⟨fun pins s σ H Q I q => h.run pins s σ H Q I (i σ H Q q)⟩
theorem po_noneM : PO X none (tOp' (gx X) W (optI none)) := po_imp po_none fun σ H Q ⟨F, Mm, G, ts, st, k⟩ => k F Mm H (Same.refl _) st
theorem po_someM {m : M D} (h : PE X e (tZ (gx X) W m)) : PO X (some e) (tOp' (gx X) W (optI (some m))) := po_imp (po_some h) fun σ H Q ⟨F, Mm, G, ts, st, k⟩ => by
  let K : R (Option Int) → Prop := fun r => match r with
    | .bad => False
    | .ok o ts' => ∀ F' M' H', Same F F' → Sta (gx X) F' M' G H' σ ts' → Q o H'
    | .ex c ts' => KX (gx X) W F G σ c ts'
  refine tZ_then (K := K) st id (fun _ _ z => z) k fun d ts1 _ k1 F1 M1 H1 v s1 r st1 => ?_
  cases q : toI d with
  | none => simp only [q] at k1; exact k1.elim
  | some j =>
    simp only [q] at k1
    rw [toI_eq q] at r
    cases r
    exact ⟨j, rfl, k1 F1 M1 H1 s1 st1⟩
theorem tO_then {α : Type} {g : Gx} {m : M (Option Int)} {h : Option Int → M α} {K : R α → Prop} {F Mm G H : Hp} {σ : L2.St} {ts : List T} {Q : Option Int → Hp → Prop} (st : Sta g F Mm G H σ ts) (hb : ¬ K .bad) (hx : ∀ c ts', K (.ex c ts') → KX g W F G σ c ts')
    (k : K ((m >>= h) ts)) (go : ∀ t ts', K (h t ts') → ∀ F' M' H', Same F F' → Sta g F' M' G H' σ ts' → Q t H') : tOp' g W m σ H Q := by
  refine ⟨F, Mm, G, ts, st, ?_⟩
  cases q : m ts with
  | bad => rw [bind_bad q] at k; exact hb k
  | ex c ts' => rw [bind_ex q] at k; exact hx c ts' k
  | ok t ts' => rw [bind_ok q] at k; exact go t ts' k
theorem pe_slM {ma : M D} {lo hi : Option Expr} {ml mh : Option (M D)} {p2 : Pos} (ha : PE X e (tZ (gx X) W ma)) (hl : PO X lo (tOp' (gx X) W (optI ml))) (hh : PO X hi (tOp' (gx X) W (optI mh))) :
    PE X (.Subscript e (.Slice lo hi none p2) pos) (tD (gx X) W (slM ma ml mh)) :=
  pe_imp (pe_slice sl_all ha hl hh) fun σ H Q ⟨F, Mm, G, ts, st, k⟩ => by
    refine tZ_then (K := KD (gx X) W F G σ Q) st id (fun _ _ z => z) k fun d ts1 _ k1 F1 M1 H1 v s1 r1 st1 => ?_
    refine tO_then (K := KD (gx X) W F1 G σ Q) st1 id (fun _ _ z => z) (KD.mono s1 k1) fun l ts2 k2 F2 M2 H2 s2 st2 => ?_
    refine tO_then (K := KD (gx X) W F2 G σ Q) st2 id (fun _ _ z => z) (KD.mono s2 k2) fun h ts3 k3 F3 M3 H3 s3 st3 => ?_
    obtain ⟨t, e, o⟩ := KD.opt st3 (KD.mono s3 k3)
    exact opSl l h F3 H3 v d t Q st3.hc.fh (.r (r1.mono (s2.trans s3))) e o
/-! ### isinstance -/
def tyD : D → Option String
  | .non => some "NoneType"
  | .bl _ => some "bool"
  | .int _ => some "int"
  | .str _ => some "str"
  | .lst _ => some "list"
  | .tup _ => some "tuple"
  | .dk _ => some "dict"
  | _ => none
def isi (ty : String) (d : D) : Option T := match tyD d with
  | some a => match kitB a ty with
    | some b => some (.z (.bl b))
    | none => none
  | none => none
theorem Vh.ty {g : Gx} {F H : Hp} {v : V} {d : D} {a : String} (s : Same F H) (h : Vh g F H v d) (e : tyD d = some a) : TyX g.K H v (.type a) := by
  cases d with
  | non => cases e; cases h.non; exact .base .non
  | bl b => cases e; cases h.bl; exact .base (.bl _)
  | int b => cases e; cases h.int; exact .base (.int _)
  | str b => cases e; cases h.str; exact .base (.str _)
  | lst l => cases e; obtain ⟨p, xs, rfl, hp, _⟩ := h.lst s; exact .base (.lst hp)
  | tup l =>
    cases e
    obtain ⟨p, xs, rfl, hp, _⟩ := h.tup s
    rcases hp with (hp | ⟨o, hp⟩) | ⟨o, its, n, hk, hc, _⟩
    · exact .base (.tup hp)
    · exact .fTuple hp
    · exact .kTuple hk hc
  | dk l =>
    cases e
    obtain ⟨p, xs, rfl, hp, _⟩ := h.dkO s
    rcases hp with hp | ⟨o, hp⟩
    · exact .base (.dK hp)
    · exact .fDict hp
  | dt l => cases e
  | ob c l => cases e
  | st l => cases e
  | scr l => cases e
  | fn l => cases e
theorem pe_isiM {ty : String} {y : Str} {p2 : Pos} {m : M D} (hg : Gl X "isinstance") (hm : X.mg "isinstance" = none) (hg2 : Gl X y) (hm2 : X.mg y = none) (hb : bootBuiltins y = some (.type ty)) (hn : y ≠ "__name__") (hdb : (y == ("__debug__" : Str)) = false)
    (ha : PE X e (tV (gx X) W m)) (n : nst e = true) : PE X (.Call (.Name "isinstance" p) [e, .Name y p2] [] pos) (tD (gx X) W (m >>= fun d => opt (isi ty d))) :=
  pe_imp (pe_callB call_isi hg hm (by decide +kernel) (pa_cons ha (pa_cons (pe_bltn hg2 hm2 hb (v := .ty ty) rfl hn hdb) pa_nil rfl) (star_of n _ _)) (by decide +kernel) (by decide +kernel) (star_of n _ _) rfl) fun σ H Q h =>
    one_V (R1' := fun x H Q => rIsi X.K [x, .ty ty] H Q) (fun F H x dx t Q s hx e q => by
      unfold isi at e
      cases q1 : tyD dx with
      | none => rw [q1] at e; cases e
      | some a =>
        rw [q1] at e
        dsimp only at e
        cases q2 : kitB a ty with
        | none => rw [q2] at e; cases e
        | some b =>
          rw [q2] at e; cases e
          exact ⟨x, .ty ty, .type a, .type ty, b, rfl, .ty ty, hx.ty s q1, kit_ty q2, q.val (.bl b)⟩) h
def isi2 (t1 t2 : String) (d : D) : Option T := match tyD d with
  | some a => match kitB a t1, kitB a t2 with
    | some b, some c => some (.z (.bl (b || c)))
    | _, _ => none
  | none => none
theorem Vh.grow {g : Gx} {F H : Hp} {v : V} {d : D} {q : Addr} {o : HO} (h : Vh g F H v d) (n : H q = none) : Vh g F (upd H q o) v d := by
  cases h with
  | r h => exact .r h
  | l h r => exact .l (same_upd n _ _ h) r
  | dk h k r => exact .dk (same_upd n _ _ h) k r
  | dt h k r => exact .dt (same_upd n _ _ h) k r
theorem pe_isi2M {t1 t2 : String} {y1 y2 : Str} {p1 p2 p3 : Pos} {kk : Nat} {m : M D} (hg : Gl X "isinstance") (hm : X.mg "isinstance" = none) (hg1 : Gl X y1) (hm1 : X.mg y1 = none) (hb1 : bootBuiltins y1 = some (.type t1)) (hn1 : y1 ≠ "__name__") (hdb1 : (y1 == ("__debug__" : Str)) = false)
    (hg2 : Gl X y2) (hm2 : X.mg y2 = none) (hb2 : bootBuiltins y2 = some (.type t2)) (hn2 : y2 ≠ "__name__") (hdb2 : (y2 == ("__debug__" : Str)) = false)
    (ha : PE X e (tV (gx X) W m)) (n : nst e = true) : PE X (.Call (.Name "isinstance" p) [e, .Tuple [.Name y1 p1, .Name y2 p2] kk p3] [] pos) (tD (gx X) W (m >>= fun d => opt (isi2 t1 t2 d))) :=
  pe_imp (pe_callB call_isiT hg hm (by decide +kernel) (pa_cons ha (pa_cons (pe_tup (pa_cons (pe_bltn hg1 hm1 hb1 (v := .ty t1) rfl hn1 hdb1) (pa_cons (pe_bltn hg2 hm2 hb2 (v := .ty t2) rfl hn2 hdb2) pa_nil rfl) rfl)) pa_nil rfl) (star_of n _ _)) (by decide +kernel) (by decide +kernel) (star_of n _ _) rfl) fun σ H Q ⟨F, Mm, G, ts, st, k⟩ => by
    refine tV_then (K := KD (gx X) W F G σ Q) st id (fun _ _ z => z) k fun dx ts1 _ k1 F1 M1 H1 v s1 r1 st1 => ?_
    refine ⟨by show 2 ≤ sizeLine; decide, fun pq hp => ?_⟩
    unfold isi2 at k1
    cases q1 : tyD dx with
    | none => rw [q1] at k1; exact k1.elim
    | some a =>
      rw [q1] at k1
      dsimp only at k1
      cases q2 : kitB a t1 with
      | none => rw [q2] at k1; exact k1.elim
      | some b =>
        cases q3 : kitB a t2 with
        | none => rw [q2, q3] at k1; exact k1.elim
        | some c =>
          rw [q2, q3] at k1
          have ty := (r1.grow (o := .tup [.ty t1, .ty t2]) hp).ty (st1.hc.fh.trans (same_upd hp)) q1
          obtain ⟨sN, stN⟩ := st1.newF (o := .tup [.ty t1, .ty t2]) hp
          refine ⟨v, pq, [.ty t1, .ty t2], .type a, [.type t1, .type t2], b || c, rfl, upd_same, .cons (.ty _) (.cons (.ty _) .nil), ty, ?_, k1 _ em M1 _ _ (s1.trans sN) (.z (.bl _)) stN Dj.em_l⟩
          cases b with
          | true => exact kitAny_cons (kit_ty q2) (fun z => nomatch z) fun _ => rfl
          | false => exact kitAny_cons (kit_ty q2) (fun _ => by
              cases c with
              | true => exact kitAny_cons (kit_ty q3) (fun z => nomatch z) fun _ => rfl
              | false => exact kitAny_cons (kit_ty q3) (fun _ => kitAny_nil) fun z => nomatch z) fun z => nomatch z
end
/-! ### a def's body -/
/-- the result of a body, for its caller: the parameters that are never stored come back -/
def pickP : List Bool → List T → List T
  | true :: r, t :: ts => t :: pickP r ts
  | false :: r, _ :: ts => .gone :: pickP r ts
  | _, _ => []
def bodyR (n : Nat) (kp : List Bool) (m : S) (args : List T) : R T := match m (args ++ List.replicate n .gone) with
  | .nx ts => if ts.length = args.length + n then .ok (.z .non) (pickP kp ts) else .bad
  | .rt t ts => if ts.length = args.length + n then .ok t (pickP kp ts) else .bad
  | .ex c ts => if ts.length = args.length + n then .ex c (pickP kp ts) else .bad
  | _ => .bad
def keptOf : Nat → List Bool → List Nat
  | _, [] => []
  | i, true :: r => i :: keptOf (i + 1) r
  | i, false :: r => keptOf (i + 1) r
theorem pick_ok {g : Gx} {F : Hp} {σ : L2.St} : ∀ (kp : List Bool) (off : Nat) (ts : List T) (M : Hp) (ws vs : List V), ROs g F M ws ts → (∀ (i : Nat) (v : V) (t : T), ws[i]? = some v → ts[i]? = some t → t = .gone ∨ σ[off + i]? = some (some v)) →
    vs.length = kp.length → kp.length ≤ ts.length → (∀ (i : Nat) (v : V), kp[i]? = some true → vs[i]? = some v → σ[off + i]? = some (some v)) → ROs g F M vs (pickP kp ts)
  | [], _, ts, M, ws, [], _, _, _, _, _ => by cases ts <;> exact .nil
  | true :: r, off, t :: ts, M, w :: ws, v :: vs, .cons (M1 := A) (M2 := B) h1 h2 h3 h4 h5, q, hl, hn, hk => by
    rw [pickP]
    have rest := pick_ok r (off + 1) ts B ws vs h2 (fun i u t' a b => by
      have := q (i + 1) u t' (by simpa using a) (by simpa using b)
      rw [show off + 1 + i = off + (i + 1) by omega]; exact this) (by simpa using hl) (by simpa using hn) (fun i u a b => by
      have := hk (i + 1) u (by simpa using a) (by simpa using b)
      rw [show off + 1 + i = off + (i + 1) by omega]; exact this)
    have e1 := hk 0 v rfl rfl
    rcases q 0 w t rfl rfl with z | z
    · subst z
      exact .cons (M1 := A) (M2 := B) .gone rest h3 h4 h5
    · rw [z] at e1; cases e1
      exact .cons h1 rest h3 h4 h5
  | false :: r, off, t :: ts, M, w :: ws, v :: vs, .cons (M1 := A) (M2 := B) h1 h2 h3 h4 h5, q, hl, hn, hk => by
    rw [pickP]
    have rest := pick_ok r (off + 1) ts B ws vs h2 (fun i u t' a b => by
      have := q (i + 1) u t' (by simpa using a) (by simpa using b)
      rw [show off + 1 + i = off + (i + 1) by omega]; exact this) (by simpa using hl) (by simpa using hn) (fun i u a b => by
      have := hk (i + 1) u (by simpa using a) (by simpa using b)
      rw [show off + 1 + i = off + (i + 1) by omega]; exact this)
    exact .cons (M1 := A) (M2 := B) .gone rest h3 h4 h5
  | b :: r, _, [], _, _, _, _, _, _, hn, _ => by simp at hn
  | b :: r, _, _ :: _, _, _ :: _, [], _, _, hl, _, _ => by simp at hl
  | [], _, _, _, _, _ :: _, _, _, hl, _, _ => by simp at hl
theorem kept_mem : ∀ (kp : List Bool) (off i : Nat), kp[i]? = some true → off + i ∈ keptOf off kp
  | true :: r, off, 0, _ => by rw [keptOf]; exact List.mem_cons_self
  | true :: r, off, i + 1, h => by
    rw [keptOf]
    have := kept_mem r (off + 1) i (by simpa using h)
    rw [show off + 1 + i = off + (i + 1) by omega] at this
    exact List.mem_cons_of_mem _ this
  | false :: r, off, i + 1, h => by
    rw [keptOf]
    have := kept_mem r (off + 1) i (by simpa using h)
    rw [show off + 1 + i = off + (i + 1) by omega] at this
    exact this
  | false :: r, off, 0, h => by simp at h
  | [], _, i, h => by simp at h
theorem ROs.pad {g : Gx} {F : Hp} : ∀ (n : Nat) {M : Hp} {vs : List V} {ts : List T}, ROs g F M vs ts → ROs g F M (vs ++ List.replicate n .non) (ts ++ List.replicate n .gone) := fun n {M vs ts} h => by
  have z : ∀ n : Nat, ROs g F em (List.replicate n V.non) (List.replicate n T.gone) := fun n => by
    induction n with
    | zero => exact .nil
    | succ n ih => exact .cons (M1 := em) (M2 := em) .gone ih (Same.refl _) (Same.refl _) Dj.em_l
  exact h.append (z n) Dj.em_r (Same.refl _) Same.empty
section
variable {P : Program} {w : World} {K : PySem.W.Frag} {mg : Str → Option Value} {base : Heap}
/-- THE RULE: a def keeps the promise that its mirror states -/
theorem fn_okM {x qual : Str} {st : Stmt} {f : Addr} {fd : FuncData} {N ps : List Str} {k : Nat} {m : S} {kp : List Bool} (F : Fun K x qual st f fd) (Sc : FnScope N ps (defScope st)) (hkp : kp.length = ps.length)
    (hbody : ∀ (cdv : Value) (A : Around) (outer : List Env) (s : Shared) (H : Hp) (E : XK), Room k (A.deeper (envOfC qual (defScope st) s.heap.objs.size f cdv)) →
      PSs (cxOf (L2.CX P w) P w K mg base N qual (defScope st) f cdv A outer s H E) (defBody st) (tS ⟨K, mg, P, w⟩ (fun c d _ H => E c d H) (keptOf 0 kp) m)) :
    FnOk P w K mg base (L2.CX P w) (k + 1) f fd ps (spF ⟨K, mg, P, w⟩ ps.length (bodyR (N.length - ps.length) kp m)) := by
  refine F.okX Sc (fun vs H Q E h => h.1) (fun cdv A outer s H vs Q E hr h => ⟨_, hbody cdv A outer s H E hr, ?_⟩)
  obtain ⟨hl, Fz, Mm, G, tl, hc, ro, h⟩ := h
  have hN : ps.length ≤ N.length := by have := congrArg List.length Sc.pre; rw [List.length_take] at this; omega
  have htl : tl.length = ps.length := by rw [← ro.length]; exact hl
  have hst : L2.start N vs = vs.map some ++ List.replicate (N.length - ps.length) none := by unfold L2.start; rw [hl]
  have st0 : Sta ⟨K, mg, P, w⟩ Fz Mm G H (L2.start N vs) (tl ++ List.replicate (N.length - ps.length) .gone) := by
    refine ⟨hc, ⟨_, ro.pad _, fun i v t h1 h2 => ?_⟩, ?_⟩
    · by_cases hi : i < tl.length
      · rw [List.getElem?_append_left (by rw [hl, ← htl]; exact hi)] at h1
        right
        rw [hst, List.getElem?_append_left (by rw [List.length_map, hl, ← htl]; exact hi), List.getElem?_map, h1]; rfl
      · rw [List.getElem?_append_right (by omega), List.getElem?_replicate] at h2
        split at h2
        · cases h2; exact .inl rfl
        · cases h2
    · rw [hst, List.length_append, List.length_append, List.length_map, List.length_replicate, List.length_replicate, hl, htl]
  have pins : ∀ {σ' : L2.St}, Pin (keptOf 0 kp) (L2.start N vs) σ' → ∀ (i : Nat) (v : V), kp[i]? = some true → vs[i]? = some v → σ'[0 + i]? = some (some v) := fun {σ'} p i v h1 h2 => by
    rw [p _ (kept_mem kp 0 i h1), Nat.zero_add, hst, List.getElem?_append_left (by rw [List.length_map]; exact (List.getElem?_eq_some_iff.mp h2).1), List.getElem?_map, h2]; rfl
  have fins : ∀ {F' M' G' H' : Hp} {σ' : L2.St} {ts : List T}, Sta ⟨K, mg, P, w⟩ F' M' G' H' σ' ts → Pin (keptOf 0 kp) (L2.start N vs) σ' → σ'.length = N.length → ROs ⟨K, mg, P, w⟩ F' M' vs (pickP kp ts) := fun {F' M' G' H' σ' ts} s p hn => by
    obtain ⟨ws, r, q⟩ := s.vs
    exact pick_ok kp 0 ts M' ws vs r (fun i v t a b => by rw [Nat.zero_add]; exact q i v t a b) (by rw [hl, hkp]) (by rw [← s.len, hn, hkp]; exact hN) (pins p)
  refine ⟨Fz, Mm, G, _, st0, ?_⟩
  unfold bodyR at h
  have hw : ∀ {F' M' G' H' : Hp} {σ' : L2.St} {ts : List T}, Sta ⟨K, mg, P, w⟩ F' M' G' H' σ' ts → ts.length = tl.length + (N.length - ps.length) → σ'.length = N.length := fun {F' M' G' H' σ' ts} s e => by
    rw [s.len, e, htl]; omega
  cases q : m (tl ++ List.replicate (N.length - ps.length) .gone) with
  | bad => rw [q] at h; exact h.elim
  | bk ts => rw [q] at h; exact h.elim
  | ct ts => rw [q] at h; exact h.elim
  | nx ts =>
    rw [q] at h
    dsimp only at h
    by_cases e : ts.length = tl.length + (N.length - ps.length)
    · rw [if_pos e] at h
      exact fun F' M' H' σ' s st p => h F' em M' H' .non s (.z .non) (fins st p (hw st e)) st.hc Dj.em_l
    · rw [if_neg e] at h; exact h.elim
  | rt t ts =>
    rw [q] at h
    dsimp only at h
    by_cases e : ts.length = tl.length + (N.length - ps.length)
    · rw [if_pos e] at h
      exact fun F' Mv M' H' σ' v s r st d p => h F' Mv M' H' v s r (fins st p (hw st e)) st.hc d
    · rw [if_neg e] at h; exact h.elim
  | ex c ts =>
    rw [q] at h
    dsimp only at h
    by_cases e : ts.length = tl.length + (N.length - ps.length)
    · rw [if_pos e] at h
      exact fun F' M' H' σ' C s st p ec => h F' M' H' C s (fins st p (hw st e)) st.hc ec
    · rw [if_neg e] at h; exact h.elim
end
end Ar
/-! ArM: lending: an expression that only looks; what comes of it is fresh. -/
namespace Ar
open PySem PySem.Spec PyProof.Rows L2
mutual
/-- what is no list, no dict, no object, all through -/
def D.atom : D → Bool
  | .non => true
  | .bl _ => true
  | .int _ => true
  | .str _ => true
  | .fn _ => true
  | .tup l => D.atoms l
  | _ => false
def D.atoms : List D → Bool
  | [] => true
  | d :: ds => D.atom d && D.atoms ds
end
mutual
def T.fresh : T → Bool
  | .z d => d.atom
  | .l ts => T.freshs ts
  | .dk kvs => T.freshk kvs
  | .dt kvs => false
  | .ob _ fs => T.fresho fs
  | .gone => true
def T.freshs : List T → Bool
  | [] => true
  | t :: ts => T.fresh t && T.freshs ts
def T.freshk : List (Key × T) → Bool
  | [] => true
  | (_, t) :: ts => T.fresh t && T.freshk ts
def T.fresho : List (Str × T) → Bool
  | [] => true
  | (_, t) :: ts => T.fresh t && T.fresho ts
end
/-- the places of lists, dicts and objects alone -/
def isCell : HO → Prop
  | .lst _ => True
  | .dK _ => True
  | .dT _ => True
  | .ins _ _ _ => True
  | .own _ => True
  | _ => False
def Cells (M : Hp) : Prop := ∀ a o, M a = some o → isCell o
theorem Cells.jn {A B : Hp} (h : Cells A) (k : Cells B) : Cells (jn A B) := fun a o e => by
  rcases jn_some e with q | q
  · exact h a o q
  · exact k a o q
theorem Cells.upd {A : Hp} {p : Addr} {u : HO} (h : Cells A) (k : isCell u) : Cells (upd A p u) := fun a o e => by
  by_cases q : a = p
  · subst q; rw [upd_same] at e; cases e; exact k
  · rw [upd_ne q] at e; exact h a o e
/-- F without M -/
def mn (F M : Hp) : Hp := fun a => match M a with | some _ => none | none => F a
theorem mn_sub {F M : Hp} : Same (mn F M) F := fun a o e => by
  unfold mn at e
  split at e
  · cases e
  · exact e
theorem mn_dj {F M : Hp} : Dj (mn F M) M := fun a => by
  unfold mn
  cases M a with
  | none => exact .inr rfl
  | some o => exact .inl rfl
theorem mn_of {F F' M : Hp} (s : Same F F') (d : Dj F M) : Same F (mn F' M) := fun a o e => by
  unfold mn
  rw [d.ne e]
  exact s a o e
theorem mn_at {F M : Hp} {a : Addr} {o : HO} (e : F a = some o) (c : Cells M) (s : Same M F) (n : ¬ isCell o) : mn F M a = some o := by
  unfold mn
  cases q : M a with
  | none => exact e
  | some u =>
    have := s a u q
    rw [e] at this
    cases this
    exact absurd (c a _ q) n
section
variable {g : Gx} {F M0 : Hp}
mutual
theorem Rp.atom (c : Cells M0) (s : Same M0 F) : ∀ {v d}, Rp g F v d → d.atom = true → Rp g (mn F M0) v d
  | _, _, .non, _ => .non
  | _, _, .bl b, _ => .bl b
  | _, _, .int b, _ => .int b
  | _, _, .str b, _ => .str b
  | _, _, .fn b, _ => .fn b
  | _, _, .tup h r, e => .tup (mn_at h c s (fun z => z)) (RpAll.atom c s r (by rw [D.atom] at e; exact e))
  | _, _, .ktup h l r, e => .ktup h l (RpAll.atom c s r (by rw [D.atom] at e; exact e))
  | _, _, .lst _ _, e => by rw [D.atom] at e <;> first | cases e | (intros; simp_all)
  | _, _, .dk _ _ _, e => by rw [D.atom] at e <;> first | cases e | (intros; simp_all)
  | _, _, .dt _ _ _, e => by rw [D.atom] at e <;> first | cases e | (intros; simp_all)
  | _, _, .st _ _ _, e => by rw [D.atom] at e <;> first | cases e | (intros; simp_all)
  | _, _, .scr _, e => by rw [D.atom] at e <;> first | cases e | (intros; simp_all)
  | _, _, .ob _ _ _ _ _, e => by rw [D.atom] at e <;> first | cases e | (intros; simp_all)
theorem RpAll.atom (c : Cells M0) (s : Same M0 F) : ∀ {v d}, RpAll g F v d → D.atoms d = true → RpAll g (mn F M0) v d
  | _, _, .nil, _ => .nil
  | _, _, .cons h t, e => by
    rw [D.atoms, Bool.and_eq_true] at e
    exact .cons (Rp.atom c s h e.1) (RpAll.atom c s t e.2)
end
end
theorem freshk_map : ∀ {ts : List (Key × T)}, T.freshk ts = true → T.freshs (ts.map (·.2)) = true
  | [], _ => rfl
  | (k, t) :: ts, e => by
    rw [T.freshk, Bool.and_eq_true] at e
    rw [List.map_cons, T.freshs, e.1, freshk_map e.2]; rfl
theorem fresho_map : ∀ {ts : List (Str × T)}, T.fresho ts = true → T.freshs (ts.map (·.2)) = true
  | [], _ => rfl
  | (k, t) :: ts, e => by
    rw [T.fresho, Bool.and_eq_true] at e
    rw [List.map_cons, T.freshs, e.1, fresho_map e.2]; rfl
mutual
theorem RO.fresh {g : Gx} {F M0 : Hp} (c : Cells M0) (s : Same M0 F) : ∀ {M v t}, RO g F M v t → t.fresh = true → RO g (mn F M0) M v t
  | _, _, .z d, .z h, e => .z (h.atom c s (by rw [T.fresh] at e; exact e))
  | _, _, .l ts, .l h1 h2 h3 h4, e => .l h1 h2 h3 (ROs.fresh c s h4 (by rw [T.fresh] at e; exact e))
  | _, _, .dk ts, .dk h1 h2 h3 h4 h5, e => .dk h1 h2 h3 h4 (ROs.fresh c s h5 (freshk_map (by rw [T.fresh] at e; exact e)))
  | _, _, _, .dt h1 h2 h3, e => by rw [T.fresh] at e; cases e
  | _, _, .ob n ts, .ob h1 h2 h3 h4 h5 h6 h7 h8, e => .ob h1 h2 h3 h4 h5 h6 h7 (ROs.fresh c s h8 (fresho_map (by rw [T.fresh] at e; exact e)))
  | _, _, _, .gone, e => .gone
theorem ROs.fresh {g : Gx} {F M0 : Hp} (c : Cells M0) (s : Same M0 F) : ∀ {M vs ts}, ROs g F M vs ts → T.freshs ts = true → ROs g (mn F M0) M vs ts
  | _, _, _, .nil, _ => .nil
  | _, _, t :: ts, .cons h1 h2 h3 h4 h5, e => by
    rw [T.freshs, Bool.and_eq_true] at e
    exact .cons (RO.fresh c s h1 e.1) (ROs.fresh c s h2 e.2) h3 h4 h5
end
/-- an owned tree's own places -/
theorem cells_em : Cells em := fun a o e => by cases e
mutual
theorem RO.shrink {g : Gx} {F : Hp} : ∀ {M v t}, RO g F M v t → ∃ M0, Same M0 M ∧ Cells M0 ∧ RO g F M0 v t
  | _, _, _, .z h => ⟨em, Same.empty, cells_em, .z h⟩
  | _, _, _, .l (a := a) (xs := xs) h1 h2 h3 h4 => by
    obtain ⟨M0, s, c, r⟩ := ROs.shrink h4
    have n := s.free h3
    exact ⟨upd M0 a (.lst xs), same_upd_l (s.trans h2) h1, c.upd (u := .lst xs) trivial, .l upd_same (same_upd n) n r⟩
  | _, _, _, .dk (a := a) (kvs := kvs) h1 h2 h3 h4 h5 => by
    obtain ⟨M0, s, c, r⟩ := ROs.shrink h5
    have n := s.free h3
    exact ⟨upd M0 a (.dK kvs), same_upd_l (s.trans h2) h1, c.upd (u := .dK kvs) trivial, .dk upd_same (same_upd n) n h4 r⟩
  | _, _, _, .dt (a := a) (kvs := kvs) h1 h2 h3 => ⟨upd em a (.dT kvs), same_upd_l Same.empty h1, cells_em.upd (u := .dT kvs) trivial, .dt upd_same h2 h3⟩
  | _, _, _, .ob (a := a) (C := C) (dx := dx) (fs := fs) h1 h2 h3 h4 h5 h6 h7 h8 => by
    obtain ⟨M0, s, c, r⟩ := ROs.shrink h8
    have n1 := s.free h5
    have n2 := s.free h6
    have hne : a ≠ dx := by intro e; rw [← e, h2] at h3; cases h3
    have nn : (upd M0 dx (.own a)) a = none := by rw [upd_ne hne]; exact n1
    exact ⟨upd (upd M0 dx (.own a)) a (.ins C dx fs), same_upd_l (same_upd_l (s.trans h4) h3) h2, (c.upd (u := .own a) trivial).upd (u := .ins C dx fs) trivial, .ob h1 upd_same (by rw [upd_ne (Ne.symm hne)]; exact upd_same) ((same_upd n2).trans (same_upd nn)) n1 n2 h7 r⟩
  | _, _, _, .gone => ⟨em, Same.empty, cells_em, .gone⟩
theorem ROs.shrink {g : Gx} {F : Hp} : ∀ {M vs ts}, ROs g F M vs ts → ∃ M0, Same M0 M ∧ Cells M0 ∧ ROs g F M0 vs ts
  | _, _, _, .nil => ⟨em, Same.empty, cells_em, .nil⟩
  | _, _, _, .cons h1 h2 h3 h4 h5 => by
    obtain ⟨A, sA, cA, rA⟩ := RO.shrink h1
    obtain ⟨B, sB, cB, rB⟩ := ROs.shrink h2
    have d := h5.sub sA sB
    exact ⟨jn A B, jn_sub (sA.trans h3) (sB.trans h4), cA.jn cB, .cons rA rB jn_l (jn_r d) d⟩
end
theorem Sta.shrink {g : Gx} {F Mm G H : Hp} {σ : L2.St} {ts : List T} (st : Sta g F Mm G H σ ts) : ∃ M0, Cells M0 ∧ Sta g F M0 G H σ ts := by
  obtain ⟨vs, r, q⟩ := st.vs
  obtain ⟨M0, s, c, r0⟩ := r.shrink
  have hc := st.hc
  exact ⟨M0, c, ⟨hc.fh, s.trans hc.mh, hc.gh, hc.fm.sub (Same.refl _) s, hc.fg, hc.mg.sub s (Same.refl _), hc.ft⟩, ⟨vs, r0, q⟩, st.len⟩
/-- all slots frozen -/
def frzT (t : T) : T := match t.fz with
  | some d => .z d
  | none => .gone
theorem ROs.frzAll {g : Gx} {F F' : Hp} (s : Same F F') : ∀ {M vs ts}, ROs g F M vs ts → Same M F' → ROs g F' em vs (ts.map frzT)
  | _, _, _, .nil, _ => .nil
  | _, _, t :: ts, .cons h1 h2 h3 h4 h5, m => by
    refine .cons (M1 := em) (M2 := em) ?_ (ROs.frzAll s h2 (h4.trans m)) Same.empty Same.empty Dj.em_l
    show RO g F' em _ (frzT t)
    unfold frzT
    cases q : t.fz with
    | none => exact .gone
    | some d => exact .z (h1.fz q s (h3.trans m))
section
variable {g : Gx} {F Mm G H : Hp} {σ : L2.St} {ts : List T}
theorem Sta.frzAll (st : Sta g F Mm G H σ ts) : Same F (jn F Mm) ∧ Sta g (jn F Mm) em G H σ (ts.map frzT) := by
  have hc := st.hc
  obtain ⟨vs, r, q⟩ := st.vs
  refine ⟨jn_l, ⟨jn_sub hc.fh hc.mh, Same.empty, hc.gh, Dj.em_r, dj_jn hc.fg hc.mg, Dj.em_l, hc.ft.mono jn_l⟩, ⟨vs, r.frzAll jn_l (jn_r hc.fm), fun i v t h1 h2 => ?_⟩, by rw [List.length_map]; exact st.len⟩
  rw [List.getElem?_map] at h2
  cases e : ts[i]? with
  | none => rw [e] at h2; cases h2
  | some u =>
    rw [e] at h2
    rcases q i v u h1 e with z | z
    · subst z; cases h2; exact .inl rfl
    · exact .inr z
theorem Ft.mn {F F' H' : Hp} (ft : Ft F H) (fm : Dj F Mm) (mh : Same Mm H) (mh' : Same Mm H') (ft' : Ft F' H') : Ft (Ar.mn F' Mm) H' := fun a xs e => by
  have e1 := ft' a xs e
  cases q : Mm a with
  | none => unfold Ar.mn; simp only [q]; exact e1
  | some o =>
    have e2 := mh' _ _ q
    rw [e] at e2
    cases e2
    exact absurd (fm.ne (ft _ _ (mh _ _ q))) (by rw [q]; exact fun z => nomatch z)
/-- back from lending -/
theorem Sta.back {F' M' H' : Hp} {ts' : List T} (st : Sta g F Mm G H σ ts) (s : Same (jn F Mm) F') (st' : Sta g F' M' G H' σ ts') : Same F (mn F' Mm) ∧ Sta g (mn F' Mm) Mm G H' σ ts := by
  have hc := st.hc
  have hc' := st'.hc
  have s0 := mn_of (jn_l.trans s) hc.fm
  have mh' : Same Mm H' := ((jn_r hc.fm).trans s).trans hc'.fh
  obtain ⟨vs, r, q⟩ := st.vs
  exact ⟨s0, ⟨mn_sub.trans hc'.fh, mh', hc'.gh, mn_dj, hc'.fg.sub mn_sub (Same.refl _), hc.mg, hc.ft.mn hc.fm hc.mh mh' hc'.ft⟩, ⟨vs, r.mono s0, q⟩, st.len⟩
/-- back from lending, with something in the hand that holds nothing that was lent -/
theorem Sta.backO {F' M' Mv H' : Hp} {ts' : List T} (st : Sta g F Mm G H σ ts) (s : Same (jn F Mm) F') (st' : Sta g F' M' (jn Mv G) H' σ ts') (d : Dj Mv G) : Same F (mn F' Mm) ∧ Sta g (mn F' Mm) Mm (jn Mv G) H' σ ts := by
  have hc := st.hc
  have hc' := st'.hc
  have dF : Dj F' Mv := hc'.fg.sub (Same.refl _) jn_l
  have s0 := mn_of (jn_l.trans s) hc.fm
  obtain ⟨vs, r, q⟩ := st.vs
  exact ⟨s0, ⟨mn_sub.trans hc'.fh, ((jn_r hc.fm).trans s).trans hc'.fh, hc'.gh, mn_dj, hc'.fg.sub mn_sub (Same.refl _), dj_jn_r (dF.sub ((jn_r hc.fm).trans s) (Same.refl _)) hc.mg, hc.ft.mn hc.fm hc.mh (((jn_r hc.fm).trans s).trans hc'.fh) hc'.ft⟩, ⟨vs, r.mono s0, q⟩, st.len⟩
end
def lendM (m : M T) : M T := fun ts => match m (ts.map frzT) with
  | .ok t _ => if t.fresh = true then .ok t ts else .bad
  | .ex c _ => .ex c ts
  | .bad => .bad
def lendB (m : M Bool) : M Bool := fun ts => match m (ts.map frzT) with
  | .ok t _ => .ok t ts
  | .ex c _ => .ex c ts
  | .bad => .bad
section
variable {X : Cx} {W : WX} {e : Expr}
theorem pe_lend {m : M T} (h : PE X e (tD (gx X) W m)) : PE X e (tD (gx X) W (lendM m)) :=
  pe_imp h fun σ H Q ⟨F, Mm, G, ts, st, k⟩ => by
    obtain ⟨M0, c0, st⟩ := st.shrink
    obtain ⟨s0, st0⟩ := st.frzAll
    refine ⟨jn F M0, em, G, ts.map frzT, st0, ?_⟩
    unfold lendM at k
    cases q : m (ts.map frzT) with
    | bad => rw [q] at k; exact k
    | ex c ts' =>
      rw [q] at k
      intro F' M' H' C s1 st1 hC
      exact k _ M0 H' C (st.back s1 st1).1 (st.back s1 st1).2 hC
    | ok t ts' =>
      rw [q] at k
      intro F' Mv M' H' v s1 r st1 d
      dsimp only at k
      by_cases hf : t.fresh = true
      · rw [if_pos hf] at k
        obtain ⟨s2, st2⟩ := st.backO s1 st1 d
        exact k (mn F' M0) Mv M0 H' v s2 (r.fresh c0 ((jn_r st.hc.fm).trans s1) hf) st2 d
      · rw [if_neg hf] at k; exact k.elim
theorem pt_lend {m : M Bool} (h : PT X e (tB (gx X) W m)) : PT X e (tB (gx X) W (lendB m)) :=
  pt_imp h fun σ H Q ⟨F, Mm, G, ts, st, k⟩ => by
    obtain ⟨s0, st0⟩ := st.frzAll
    refine ⟨jn F Mm, em, G, ts.map frzT, st0, ?_⟩
    unfold lendB at k
    cases q : m (ts.map frzT) with
    | bad => rw [q] at k; exact k
    | ex c ts' =>
      rw [q] at k
      intro F' M' H' C s1 st1 hC
      exact k _ Mm H' C (st.back s1 st1).1 (st.back s1 st1).2 hC
    | ok t ts' =>
      rw [q] at k
      intro F' M' H' s1 st1
      exact k _ Mm H' (st.back s1 st1).1 (st.back s1 st1).2
theorem pw_lend {m : M Bool} (h : PW X e (tB (gx X) W m)) : PW X e (tB (gx X) W (lendB m)) :=
  pw_imp h fun σ H Q ⟨F, Mm, G, ts, st, k⟩ => by
    obtain ⟨s0, st0⟩ := st.frzAll
    refine ⟨jn F Mm, em, G, ts.map frzT, st0, ?_⟩
    unfold lendB at k
    cases q : m (ts.map frzT) with
    | bad => rw [q] at k; exact k
    | ex c ts' =>
      rw [q] at k
      intro F' M' H' C s1 st1 hC
      exact k _ Mm H' C (st.back s1 st1).1 (st.back s1 st1).2 hC
    | ok t ts' =>
      rw [q] at k
      intro F' M' H' s1 st1
      exact k _ Mm H' (st.back s1 st1).1 (st.back s1 st1).2
end
end Ar
/-! ArN: short forms of the rules, for printed derivations; for over an owned list; the text's defs. -/
namespace Ar
open PySem PySem.Spec PyProof.Rows L2

/-! ### for over an owned list, whose items are handed on -/
def loopOwn (j : Nat) (body : S) : List T → S
  | [] => RS.nx
  | u :: us => fun ts => if j < ts.length then (match body (ts.set j u) with
      | .nx ts2 => loopOwn j body us ts2
      | .ct ts2 => loopOwn j body us ts2
      | .bk ts2 => .nx ts2
      | .rt t ts2 => .rt t ts2
      | .ex c ts2 => .ex c ts2
      | .bad => .bad) else .bad
def forOwn (i j : Nat) (body : S) : S := fun ts => match ts[i]? with
  | some (.l us) => loopOwn j body us (ts.set i .gone)
  | _ => .bad
theorem jn_assoc {A B C : Hp} : jn (jn A B) C = jn A (jn B C) := by
  funext a
  unfold jn
  cases A a <;> rfl
theorem Sta.lessG {g : Gx} {F M G G' H : Hp} {σ : L2.St} {ts : List T} (h : Sta g F M G H σ ts) (s : Same G' G) : Sta g F M G' H σ ts :=
  ⟨⟨h.hc.fh, h.hc.mh, s.trans h.hc.gh, h.hc.fm, h.hc.fg.sub (Same.refl _) s, h.hc.mg.sub (Same.refl _) s, h.hc.ft⟩, h.vs, h.len⟩
section
variable {g : Gx} {W : WX} {bs : List Nat} {F G Mv : Hp} {σ : L2.St} {D : Ends}
theorem KS.frame {r : RS} (h : KS g W bs F G σ D r) (d : Dj Mv G) : KS g W bs F (jn Mv G) σ D r := by
  cases r with
  | bad => exact h
  | nx ts => exact fun F' M' H' σ' s st p => h F' M' H' σ' s (st.drop d) p
  | bk ts => exact fun F' M' H' σ' s st p => h F' M' H' σ' s (st.drop d) p
  | ct ts => exact fun F' M' H' σ' s st p => h F' M' H' σ' s (st.drop d) p
  | rt t ts =>
    intro F' Mr M' H' σ' v s r st dj p
    have dr : Dj Mr Mv := dj.sub (Same.refl _) jn_l
    have e : jn Mr (jn Mv G) = jn Mv (jn Mr G) := by rw [jn_swap dr.symm, jn_assoc]
    rw [e] at st
    exact h F' Mr M' H' σ' v s r (st.lessG (jn_r (dj_jn_r dr.symm d))) (dj.sub (Same.refl _) (jn_r d)) p
  | ex c ts => exact fun F' M' H' σ' C s st p => h F' M' H' σ' C s (st.drop d) p
end
section
variable {X : Cx} {W : WX} {bs : List Nat} {x y : Str} {p p2 pos : Pos} {body : List Stmt} {i j : Nat} {n : S}
theorem ps_forOwn (hp : PassesOwn (model X.prog X.w) X.A X.env X.xe) (hc : X.calm = true) (hN : X.N.Nodup) (hi : X.N[i]? = some x) (hv : Vis X.env.scope x) (hd : (x == ("__debug__" : Str)) = false) (hcd : (x == ("__classdict__" : Str)) = false)
    (hj : X.N[j]? = some y) (hy : Loc X.env.scope y) (hf : X.fn y = true ∨ X.env.scope.names.lookup y = some .local) (hb : j ∉ bs) (h : PSs X body (tS (gx X) W bs n)) :
    PS X (.For (.Name y p2) (.Name x p) body [] pos) (tS (gx X) W bs (forOwn i j n)) :=
  ps_imp (ps_for hp hc (pi_seq (pe_var hi hv hd hcd)) (pg_name hN hj hy hf) h (fun _ => rfl)) fun D σ H ⟨F, Mm, G, ts, st, k⟩ => by
    unfold forOwn at k
    cases q : ts[i]? with
    | none => rw [q] at k; exact k.elim
    | some t =>
      cases t with
      | l us =>
        rw [q] at k
        dsimp only at k
        obtain ⟨v, M1, M2, e1, r, st1, d1⟩ := st.take q (fun z => nomatch z)
        cases r with
        | @l _ M' a xs _ ha sM hna rs =>
        have hc1 := st1.hc
        have ga : G a = none := d1.ne ha
        have fa : F a = none := hc1.fg.ne' (jn_l _ _ ha)
        have ma : M2 a = none := hc1.mg.ne' (jn_l _ _ ha)
        have dM : Dj M' G := d1.sub sM (Same.refl _)
        have Ha : H a = some (.lst xs) := hc1.gh _ _ (jn_l _ _ ha)
        have sG : Same (jn M' G) (jn M1 G) := jn_sub (sM.trans jn_l) (jn_r d1)
        have st2 : Sta (gx X) (upd F a (.lst xs)) M2 (jn M' G) H σ (ts.set i .gone) := by
          refine (st1.lessG sG).more (same_upd fa) ⟨same_upd_l hc1.fh Ha, hc1.mh, sG.trans hc1.gh, dj_upd_l hc1.fm ma, dj_upd_l (hc1.fg.sub (Same.refl _) sG) (jn_none hna ga), hc1.mg.sub (Same.refl _) sG, hc1.ft.mono (same_upd fa)⟩
        refine ⟨.ref a, e1, a, rfl, .inl ⟨xs, .of Ha, ?_⟩⟩
        refine ⟨fun k m σ' H' => ∃ F' M3 Mr ts', Same (upd F a (.lst xs)) F' ∧ Dj Mr G ∧ ROs (gx X) F' Mr (xs.drop k) (us.drop k) ∧ Sta (gx X) F' M3 (jn Mr G) H' σ' ts' ∧ Pin bs σ σ' ∧ k + m = us.length ∧ KS (gx X) W bs F' G σ' D (loopOwn j n (us.drop k) ts'),
          ⟨us.length, upd F a (.lst xs), M2, M', _, Same.refl _, dM, rs.mono (same_upd fa), st2, Pin.refl, Nat.zero_add _, KS.mono k (same_upd fa) Pin.refl⟩, ?_⟩
        rintro k m σ' H' ⟨F2, M3, Mr, ts2, s2, dr, r2, st3, p2, em, k2⟩
        have hS : SqL X.K H' a xs := .of (st3.hc.fh _ _ (s2 _ _ upd_same))
        cases m with
        | zero =>
          have ek : k = us.length := em
          refine .inl ⟨⟨xs, hS, by rw [rs.length, ek]; exact Nat.le_refl _⟩, ?_⟩
          rw [List.drop_of_length_le (by omega)] at k2
          exact k2 F2 M3 H' σ' (Same.refl _) (st3.lessG (jn_r dr)) Pin.refl
        | succ m =>
          have hk : k < us.length := by omega
          have hk2 : k < xs.length := by rw [rs.length]; exact hk
          have ed : us.drop k = us[k] :: us.drop (k + 1) := List.drop_eq_getElem_cons hk
          have ex : xs.drop k = xs[k] :: xs.drop (k + 1) := List.drop_eq_getElem_cons hk2
          rw [ed, loopOwn] at k2
          rw [ed, ex] at r2
          refine .inr ⟨⟨xs, xs[k], hS, List.getElem?_eq_getElem hk2⟩, fun σ3 H3 => ∃ F' M5 Mr' ts', Same (upd F a (.lst xs)) F' ∧ Dj Mr' G ∧ ROs (gx X) F' Mr' (xs.drop (k + 1)) (us.drop (k + 1)) ∧ Sta (gx X) F' M5 (jn Mr' G) H3 σ3 ts' ∧ Pin bs σ σ3 ∧ KS (gx X) W bs F' G σ3 D (loopOwn j n (us.drop (k + 1)) ts'), ?_, ?_⟩
          · rintro σ3 H3 ⟨F3, M5, Mr', ts3, b1, b2, b3, b4, b5, b6⟩
            exact ⟨m, Nat.lt_succ_self m, F3, M5, Mr', ts3, b1, b2, b3, b4, b5, by omega, b6⟩
          · rintro w H3 ⟨rfl, fv⟩
            have ew : w = xs[k] := Option.some.inj ((fv xs hS).symm.trans (List.getElem?_eq_getElem hk2))
            subst ew
            cases r2 with
            | @cons _ A B _ _ _ _ ra rb sA sB dAB =>
            dsimp only at k2
            by_cases hl : j < ts2.length
            · rw [if_pos hl] at k2
              have dA : Dj A G := dr.sub sA (Same.refl _)
              have dB : Dj B G := dr.sub sB (Same.refl _)
              have st4 : Sta (gx X) F2 M3 (jn A (jn B G)) H3 σ' ts2 := st3.lessG (jn_sub (sA.trans jn_l) (jn_sub (sB.trans jn_l) (jn_r dr)))
              obtain ⟨M5, st5⟩ := Sta.assign st4 ra (dj_jn_r dAB dA) hl
              have pj : Pin bs σ' (σ'.set j (some xs[k])) := Pin.set hb
              refine ⟨F2, M5, jn B G, _, st5, ?_⟩
              cases q3 : n (ts2.set j us[k]) with
              | bad => rw [q3] at k2; exact k2.elim
              | nx ts5 =>
                rw [q3] at k2
                exact fun F5 M6 H5 σ5 s5 st6 p5 => ⟨F5, M6, B, ts5, s2.trans s5, dB, rb.mono s5, st6, (p2.trans pj).trans p5, KS.mono k2 s5 (pj.trans p5)⟩
              | ct ts5 =>
                rw [q3] at k2
                exact fun F5 M6 H5 σ5 s5 st6 p5 => ⟨F5, M6, B, ts5, s2.trans s5, dB, rb.mono s5, st6, (p2.trans pj).trans p5, KS.mono k2 s5 (pj.trans p5)⟩
              | bk ts5 =>
                rw [q3] at k2
                exact KS.frame (W := W) (r := .bk ts5) (D := { nx := D.nx, rt := D.rt, bk := D.nx, ct := D.nx }) (fun F5 M6 H5 σ5 s5 st6 p5 => k2 F5 M6 H5 σ5 s5 st6 (pj.trans p5)) dB
              | rt t ts5 =>
                rw [q3] at k2
                exact KS.frame (W := W) (r := .rt t ts5) (D := { nx := D.nx, rt := D.rt, bk := D.nx, ct := D.nx }) (fun F5 Mv M6 H5 σ5 v s5 r st6 d p5 => k2 F5 Mv M6 H5 σ5 v s5 r st6 d (pj.trans p5)) dB
              | ex c ts5 =>
                rw [q3] at k2
                exact KS.frame (W := W) (r := .ex c ts5) (D := { nx := D.nx, rt := D.rt, bk := D.nx, ct := D.nx }) (fun F5 M6 H5 σ5 C s5 st6 p5 => k2 F5 M6 H5 σ5 C s5 st6 (pj.trans p5)) dB
            · rw [if_neg hl] at k2; exact k2.elim
      | _ => rw [q] at k; exact k.elim
end
end Ar
/-! ArO: the rules in short, for printed derivations; the defs of a text. -/
namespace Ar
open PySem PySem.Spec PyProof.Rows L2
def binA (f : D → D → Option T) (ma : M D) (mc : List T → Option D) : M T := ma >>= fun x => see mc >>= fun y => opt (f x y)
def binZ (f : D → D → Option T) (ma mb : M D) : M T := ma >>= fun x => mb >>= fun y => opt (f x y)
def un1 (f : D → Option T) (ma : M D) : M T := ma >>= fun y => opt (f y)
def zT (m : M T) : M D := m >>= frz
def kA (d : D) : List T → Option D := fun _ => some d
def kT (d : D) : M T := M.ret (.z d)
def tsB (m : M T) : M Bool := m >>= asB
def notB (m : M Bool) : M Bool := m >>= fun b => M.ret !b
def isN (ma : M D) : M T := ma >>= fun d => M.ret (.z (.bl (isNonD d)))
def isNN (ma : M D) : M T := ma >>= fun d => M.ret (.z (.bl !isNonD d))
def isNB (ma : M D) : M Bool := ma >>= fun d => M.ret (isNonD d)
def isNNB (ma : M D) : M Bool := ma >>= fun d => M.ret !isNonD d
def itM (f : D → Option (List D)) (m : M D) : M (List D) := m >>= fun d => opt (f d)
def it2M (f : D → D → Option (List D)) (m n : M D) : M (List D) := m >>= fun d => n >>= fun e => opt (f d e)
def enumO : D → Option (List D)
  | .lst l => some (enumD 0 l)
  | _ => none
theorem hu1 {k : Nat} {A : Around} (h : Room k A) : A.units + 1 < cLine := by have := h.un; omega
theorem hu0 {k : Nat} {A : Around} (h : Room k A) : A.units < cLine := by have := h.un; omega
theorem hu64 {k : Nat} {A : Around} (h : Room k A) : A.units + 64 < cLine := by have := h.un; omega
theorem hu65 {k : Nat} {A : Around} (h : Room k A) : A.units + 65 < cLine := by have := h.un; omega
section
variable {X : Cx} {W : WX} {a b e : Expr} {es : List Expr} {pos p : Pos} {op : Operator} {cop : CmpOp} {r : R2} {f : D → D → Option T} {f1 : D → Option T} {ma mb : M D} {mc : List T → Option D} {m : M T}
theorem e_kA {d : D} {v : V} (h : PE X e (tC v)) (r : ∀ F, Rp (gx X) F v d) : PE X e (tAt (gx X) (kA d)) := pe_seeC h r
theorem e_kT {d : D} {v : V} (h : PE X e (tC v)) (r : ∀ F, Rp (gx X) F v d) : PE X e (tD (gx X) W (kT d)) := pe_const h r
theorem e_zT (h : PE X e (tD (gx X) W m)) : PE X e (tZ (gx X) W (zT m)) := pe_frz h
theorem e_binA (ho : OpR X (binaryOp op) r) (hs : Op2 (gx X) r f) (ha : PE X a (tV (gx X) W ma)) (hb : PE X b (tAt (gx X) mc)) : PE X (.BinOp a op b pos) (tD (gx X) W (binA f ma mc)) := pe_binA ho hs ha hb
theorem e_binZ (ho : OpR X (binaryOp op) r) (hs : Op2 (gx X) r f) (ha : PE X a (tZ (gx X) W ma)) (hb : PE X b (tV (gx X) W mb)) : PE X (.BinOp a op b pos) (tD (gx X) W (binZ f ma mb)) := pe_binZ ho hs ha hb
theorem e_cmpA (ho : OpR X (compareOp cop) r) (hs : Op2 (gx X) r f) (ha : PE X a (tV (gx X) W ma)) (hb : PE X b (tAt (gx X) mc)) (hm : behindInMarks cop b = false) : PE X (.Compare a [cop] [b] pos) (tD (gx X) W (binA f ma mc)) := pe_cmpA ho hs ha hb hm
theorem e_cmpZ (ho : OpR X (compareOp cop) r) (hs : Op2 (gx X) r f) (ha : PE X a (tZ (gx X) W ma)) (hb : PE X b (tV (gx X) W mb)) (hm : behindInMarks cop b = false) : PE X (.Compare a [cop] [b] pos) (tD (gx X) W (binZ f ma mb)) := pe_cmpZ ho hs ha hb hm
theorem t_cmpA (ho : OpR X (compareOp cop) r) (hs : Op2 (gx X) r f) (ha : PE X a (tV (gx X) W ma)) (hb : PE X b (tAt (gx X) mc)) (hm : behindInMarks cop b = false) : PT X (.Compare a [cop] [b] pos) (tB (gx X) W (tsB (binA f ma mc))) := pt_cmpA' ho hs ha hb hm
theorem t_cmpZ (ho : OpR X (compareOp cop) r) (hs : Op2 (gx X) r f) (ha : PE X a (tZ (gx X) W ma)) (hb : PE X b (tV (gx X) W mb)) (hm : behindInMarks cop b = false) : PT X (.Compare a [cop] [b] pos) (tB (gx X) W (tsB (binZ f ma mb))) := pt_cmpZ' ho hs ha hb hm
theorem e_ixA (hu : X.A.units + 1 < cLine) (ha : PE X a (tV (gx X) W ma)) (hb : PE X b (tAt (gx X) mc)) (hm : PlainIx b) : PE X (.Subscript a b pos) (tD (gx X) W (binA oIx ma mc)) := pe_ixA (ix_all hu) opIx ha hb hm
theorem e_ixZ (hu : X.A.units + 1 < cLine) (ha : PE X a (tZ (gx X) W ma)) (hb : PE X b (tV (gx X) W mb)) (hm : PlainIx b) : PE X (.Subscript a b pos) (tD (gx X) W (binZ oIx ma mb)) := pe_ixZ (ix_all hu) opIx ha hb hm
theorem e_un {uop : UnaryOp} {r1 : V → Hp → VK → Prop} (ho : UnR X (unaryOp uop) r1) (hs : Op1 (gx X) r1 f1) (ha : PE X a (tV (gx X) W ma)) : PE X (.UnaryOp uop a pos) (tD (gx X) W (un1 f1 ma)) := pe_un1 ho hs ha
theorem t_plain (h : PE X e (tD (gx X) W m)) (hp : plainT e = true) : PT X e (tB (gx X) W (tsB m)) := pt_plain h hp
theorem t_not {m : M Bool} (h : PT X a (tB (gx X) W m)) : PT X (.UnaryOp .Not a pos) (tB (gx X) W (notB m)) := pt_notB h
theorem e_isN {j : Nat} {p' : Pos} (ha : PE X a (tV (gx X) W ma)) : PE X (.Compare a [.Is] [.Constant .none j p'] pos) (tD (gx X) W (isN ma)) := pe_isN' ha
theorem e_isNN {j : Nat} {p' : Pos} (ha : PE X a (tV (gx X) W ma)) : PE X (.Compare a [.IsNot] [.Constant .none j p'] pos) (tD (gx X) W (isNN ma)) := pe_notN' ha
theorem t_isN {j : Nat} {p' : Pos} (ha : PE X a (tV (gx X) W ma)) : PT X (.Compare a [.Is] [.Constant .none j p'] pos) (tB (gx X) W (isNB ma)) := pt_isN' ha
theorem t_isNN {j : Nat} {p' : Pos} (ha : PE X a (tV (gx X) W ma)) : PT X (.Compare a [.IsNot] [.Constant .none j p'] pos) (tB (gx X) W (isNNB ma)) := pt_notN' ha
theorem w_and1 {m : M Bool} (h : PT X a (tB (gx X) W m)) : PW X (.BoolOp .And [a] pos) (tB (gx X) W m) := pw_and1 h
theorem w_or1 {m : M Bool} (h : PT X a (tB (gx X) W m)) : PW X (.BoolOp .Or [a] pos) (tB (gx X) W m) := pw_or1 h
/-! built-ins -/
variable {x : Str}
theorem c_len (hm : X.mg "len" = none) (hg : Gl X "len") (ha : PE X a (tV (gx X) W ma)) (n : nst a = true) : PE X (.Call (.Name "len" p) [a] [] pos) (tD (gx X) W (un1 oLen ma)) := pe_call1 call_lenAll opLen hg hm (by decide +kernel) (by decide) (by decide) ha n
theorem c_sorted (hc : X.calm = true) (hm : X.mg "sorted" = none) (hg : Gl X "sorted") (ha : PE X a (tV (gx X) W ma)) (n : nst a = true) : PE X (.Call (.Name "sorted" p) [a] [] pos) (tD (gx X) W (un1 oSorted ma)) := pe_call1 (cr_sortAll hc) opSorted hg hm (by decide +kernel) (by decide) (by decide) ha n
theorem c_sum (hc : X.calm = true) (hm : X.mg "sum" = none) (hg : Gl X "sum") (ha : PE X a (tV (gx X) W ma)) (n : nst a = true) : PE X (.Call (.Name "sum" p) [a] [] pos) (tD (gx X) W (un1 oSum ma)) := pe_call1 ((cr_sum hc).or (cr_sumT hc)) opSum hg hm (by decide +kernel) (by decide) (by decide) ha n
theorem c_all (hc : X.calm = true) (hm : X.mg "all" = none) (hg : Gl X "all") (ha : PE X a (tV (gx X) W ma)) (n : nst a = true) : PE X (.Call (.Name "all" p) [a] [] pos) (tD (gx X) W (un1 oAll ma)) := pe_call1 (cr_all hc) opAll hg hm (by decide +kernel) (by decide) (by decide) ha n
theorem c_any (hc : X.calm = true) (hm : X.mg "any" = none) (hg : Gl X "any") (ha : PE X a (tV (gx X) W ma)) (n : nst a = true) : PE X (.Call (.Name "any" p) [a] [] pos) (tD (gx X) W (un1 oAny ma)) := pe_call1 (cr_any hc) opAny hg hm (by decide +kernel) (by decide) (by decide) ha n
theorem c_abs (hm : X.mg "abs" = none) (hg : Gl X "abs") (ha : PE X a (tV (gx X) W ma)) (n : nst a = true) : PE X (.Call (.Name "abs" p) [a] [] pos) (tD (gx X) W (un1 oAbs ma)) := pe_call1 call_abs opAbs hg hm (by decide +kernel) (by decide) (by decide) ha n
theorem c_set (hc : X.calm = true) (hm : X.mg "set" = none) (hg : Gl X "set") (ha : PE X a (tV (gx X) W ma)) (n : nst a = true) : PE X (.Call (.Name "set" p) [a] [] pos) (tD (gx X) W (un1 oSet ma)) := pe_callT1 ((cr_setI hc).or (cr_setIT hc)) opSet hg hm boot_set (by decide) (by decide) ha n
theorem c_list (hc : X.calm = true) (hm : X.mg "list" = none) (hg : Gl X "list") (ha : PE X a (tV (gx X) W ma)) (n : nst a = true) : PE X (.Call (.Name "list" p) [a] [] pos) (tD (gx X) W (un1 oList ma)) := pe_callT1 (call_list_of.or (call_listD hc)) (opList (X := X)) hg hm boot_list (by decide) (by decide) ha n
theorem c_tuple (hm : X.mg "tuple" = none) (hg : Gl X "tuple") (ha : PE X a (tV (gx X) W ma)) (n : nst a = true) : PE X (.Call (.Name "tuple" p) [a] [] pos) (tD (gx X) W (un1 oTuple ma)) := pe_callT1 call_tuple_of opTuple hg hm boot_tuple (by decide) (by decide) ha n
theorem c_int (hm : X.mg "int" = none) (hg : Gl X "int") (ha : PE X a (tV (gx X) W ma)) (n : nst a = true) : PE X (.Call (.Name "int" p) [a] [] pos) (tD (gx X) W (un1 oInt ma)) := pe_callT1 (call_int1.or call_int_str) opInt hg hm boot_int (by decide) (by decide) ha n
theorem c_str (hm : X.mg "str" = none) (hg : Gl X "str") (ha : PE X a (tV (gx X) W ma)) (n : nst a = true) : PE X (.Call (.Name "str" p) [a] [] pos) (tD (gx X) W (un1 oStr ma)) := pe_callT1 call_str_int opStr hg hm boot_str (by decide) (by decide) ha n
theorem c_minZ (hc : X.calm = true) (hm : X.mg "min" = none) (hg : Gl X "min") (ha : PE X a (tZ (gx X) W ma)) (hb : PE X b (tV (gx X) W mb)) (n : nst a = true) (n2 : nst b = true) : PE X (.Call (.Name "min" p) [a, b] [] pos) (tD (gx X) W (binZ oMin2 ma mb)) := pe_call2Z (call_min2 hc) opMin2 hg hm (by decide +kernel) (by decide) (by decide) ha hb n n2
theorem c_maxZ (hc : X.calm = true) (hm : X.mg "max" = none) (hg : Gl X "max") (ha : PE X a (tZ (gx X) W ma)) (hb : PE X b (tV (gx X) W mb)) (n : nst a = true) (n2 : nst b = true) : PE X (.Call (.Name "max" p) [a, b] [] pos) (tD (gx X) W (binZ oMax2 ma mb)) := pe_call2Z (call_max2 hc) opMax2 hg hm (by decide +kernel) (by decide) (by decide) ha hb n n2
def isiM (t : String) (m : M D) : M T := m >>= fun d => opt (isi t d)
def isi2M (t u : String) (m : M D) : M T := m >>= fun d => opt (isi2 t u d)
theorem c_isi {ty : String} {y : Str} {p2 : Pos} (hm : X.mg "isinstance" = none) (hg : Gl X "isinstance") (hm2 : X.mg y = none) (hg2 : Gl X y) (hb : bootBuiltins y = some (.type ty)) (hn : y ≠ "__name__") (hdb : (y == ("__debug__" : Str)) = false)
    (ha : PE X e (tV (gx X) W ma)) (n : nst e = true) : PE X (.Call (.Name "isinstance" p) [e, .Name y p2] [] pos) (tD (gx X) W (isiM ty ma)) := pe_isiM hg hm hg2 hm2 hb hn hdb ha n
theorem c_isi2 {t1 t2 : String} {y1 y2 : Str} {p1 p2 p3 : Pos} {kk : Nat} (hm : X.mg "isinstance" = none) (hg : Gl X "isinstance") (hm1 : X.mg y1 = none) (hg1 : Gl X y1) (hb1 : bootBuiltins y1 = some (.type t1)) (hn1 : y1 ≠ "__name__") (hdb1 : (y1 == ("__debug__" : Str)) = false)
    (hm2 : X.mg y2 = none) (hg2 : Gl X y2) (hb2 : bootBuiltins y2 = some (.type t2)) (hn2 : y2 ≠ "__name__") (hdb2 : (y2 == ("__debug__" : Str)) = false)
    (ha : PE X e (tV (gx X) W ma)) (n : nst e = true) : PE X (.Call (.Name "isinstance" p) [e, .Tuple [.Name y1 p1, .Name y2 p2] kk p3] [] pos) (tD (gx X) W (isi2M t1 t2 ma)) := pe_isi2M hg hm hg1 hm1 hb1 hn1 hdb1 hg2 hm2 hb2 hn2 hdb2 ha n
/-! walks -/
variable {tg l e2 : Expr} {tpos : Pos} {elts : List Expr} {kk : Nat}
theorem i_seq (h : PE X l (tZ (gx X) W ma)) : PI X tg l (tI (gx X) W (itM itemsOf ma)) := pi_seqM h
theorem i_rng1 (hm : X.mg "range" = none) (hg : Gl X "range") (h : PE X e (tV (gx X) W ma)) (n : nst e = true) : PI X tg (.Call (.Name "range" p) [e] [] pos) (tI (gx X) W (itM rng1 ma)) := pi_rng1 hg hm h n
theorem i_rng2 (hm : X.mg "range" = none) (hg : Gl X "range") (h : PE X e (tZ (gx X) W ma)) (h2 : PE X e2 (tV (gx X) W mb)) (n : nst e = true) (n2 : nst e2 = true) :
    PI X tg (.Call (.Name "range" p) [e, e2] [] pos) (tI (gx X) W (it2M rng2 ma mb)) := pi_rng2 hg hm h h2 n n2
theorem i_zip (hm : X.mg "zip" = none) (hg : Gl X "zip") (h : PE X e (tZ (gx X) W ma)) (h2 : PE X e2 (tZ (gx X) W mb)) (n : nst e = true) (n2 : nst e2 = true) :
    PI X (.Tuple elts kk tpos) (.Call (.Name "zip" p) [e, e2] [] pos) (tI (gx X) W (it2M zip2 ma mb)) := pi_zipM hg hm h h2 n n2
theorem i_enum (hm : X.mg "enumerate" = none) (hg : Gl X "enumerate") (h : PE X e (tZ (gx X) W ma)) (n : nst e = true) :
    PI X (.Tuple elts kk tpos) (.Call (.Name "enumerate" p) [e] [] pos) (tI (gx X) W (itM enumO ma)) := pi_imp (pi_enumM hg hm h n) fun σ H Rr ⟨F, Mm, G, ts, st, k⟩ => ⟨F, Mm, G, ts, st, by
      have e0 : (fun d => opt (enumO d)) = (fun d => match d with | .lst l => M.ret (enumD 0 l) | _ => (stop : M (List D))) := by funext d; cases d <;> rfl
      unfold itM at k
      rw [e0] at k
      exact k⟩
end
/-! ### the defs of a text -/
/-- a plain def of the top -/
def DefIs (K : PySem.W.Frag) (mg : Str → Option Value) (x : Str) (st : Stmt) (ps : List Str) : Prop := ∃ fa fd, Fun K x x st fa fd ∧ Binds K fd ps [] ∧ mg x = some (.ref fa)
/-- .. and the promise that it keeps -/
def Callee (P : Program) (w : World) (K : PySem.W.Frag) (mg : Str → Option Value) (base : Heap) (k : Nat) (x : Str) (ps : List Str) (f : List T → R T) : Prop :=
  ∃ fa fd, FnOk P w K mg base (L2.CX P w) k fa fd ps (spF ⟨K, mg, P, w⟩ ps.length f) ∧ mg x = some (.ref fa) ∧ PySem.W.keepIn K (.ref fa) = true ∧ Binds K fd ps []
section
variable {P : Program} {w : World} {K : PySem.W.Frag} {mg : Str → Option Value} {base : Heap}
theorem callee_of {x : Str} {st : Stmt} {N ps : List Str} {k ex : Nat} {m : S} {kp : List Bool} (hex : N.length - ps.length = ex) (F : DefIs K mg x st ps) (Sc : FnScope N ps (defScope st)) (hkp : kp.length = ps.length)
    (hbody : ∀ (f : Addr) (cdv : Value) (A : Around) (outer : List Env) (s : Shared) (H : Hp) (E : XK), Room k (A.deeper (envOfC x (defScope st) s.heap.objs.size f cdv)) →
      PSs (cxOf (L2.CX P w) P w K mg base N x (defScope st) f cdv A outer s H E) (defBody st) (tS ⟨K, mg, P, w⟩ (fun c d _ H => E c d H) (keptOf 0 kp) m)) :
    Callee P w K mg base (k + 1) x ps (bodyR ex kp m) := by
  subst hex
  obtain ⟨fa, fd, F1, b, e⟩ := F
  exact ⟨fa, fd, fn_okM F1 Sc hkp (hbody fa), e, F1.kp, b⟩
theorem takes_cx {N : List Str} {x : Str} {sc : Scope} {f : Addr} {cdv : Value} {A : Around} {outer : List Env} {s : Shared} {H : Hp} {E : XK} :
    Takes (cxOf (L2.CX P w) P w K mg base N x sc f cdv A outer s H E) (fun c d _ H => E c d H) := takes_of rfl rfl rfl rfl
theorem passes_cx {N : List Str} {x : Str} {sc : Scope} {f : Addr} {cdv : Value} {A : Around} {outer : List Env} {s : Shared} {H : Hp} {E : XK} :
    PassesOwn (model (cxOf (L2.CX P w) P w K mg base N x sc f cdv A outer s H E).prog (cxOf (L2.CX P w) P w K mg base N x sc f cdv A outer s H E).w) (cxOf (L2.CX P w) P w K mg base N x sc f cdv A outer s H E).A (cxOf (L2.CX P w) P w K mg base N x sc f cdv A outer s H E).env (cxOf (L2.CX P w) P w K mg base N x sc f cdv A outer s H E).xe := passes_of rfl
end
section
variable {X : Cx} {W : WX} {e : Expr} {es : List Expr} {p pos : Pos} {x : Str}
theorem c_own {k : Nat} {ps : List Str} {f : List T → R T} {tks : List (Option Nat)} {ms : M (List T)} (C : Callee X.prog X.w X.K X.mg X.base k x ps f) (hr : Room k X.A) (hg : Gl X x) (tk : Takes X W) (ha : PA X (e :: es) (tAr (gx X) W tks ms)) (hl : tks.length = ps.length)
    (hd : (x == ("__debug__" : Str)) = false) (n : (e :: es).all nst = true) : PE X (.Call (.Name x p) (e :: es) [] pos) (tD (gx X) W (callM f tks ms)) := by
  obtain ⟨fa, fd, F, e1, kp, b⟩ := C
  exact pe_callM F hr hg e1 kp b tk ha hl hd n
end
end Ar
/-! ArP: recursion's ground, the law's end, a lent comprehension. -/
namespace Ar
open PySem PySem.Spec PyProof.Rows L2
section
variable {P : Program} {w : World} {K : PySem.W.Frag} {mg : Str → Option Value} {base : Heap}
theorem callee_zero {x : Str} {st : Stmt} {ps : List Str} {k : Nat} (F : DefIs K mg x st ps) : Callee P w K mg base k x ps (fun _ => .bad) := by
  obtain ⟨fa, fd, F1, b, e⟩ := F
  exact ⟨fa, fd, ⟨fun vs H Q E h => h.1, fun A outer s H args us vs Q E hr env hb hv h => by
    obtain ⟨_, _, _, _, _, _, _, z⟩ := h
    exact z.elim⟩, e, F1.kp, b⟩
theorem Callee.mono {x : Str} {ps : List Str} {j k : Nat} {f : List T → R T} (C : Callee P w K mg base j x ps f) (h : j ≤ k) : Callee P w K mg base k x ps f := by
  obtain ⟨fa, fd, F, r⟩ := C
  exact ⟨fa, fd, F.mono h, r⟩
def spEnd (K : PySem.W.Frag) : Sp := fun vs H Q _ => ∃ (a : Addr) (ns : List Int), vs = [.ref a] ∧ SqL K H a (ns.map V.int) ∧ ns.length ≤ 63 ∧ ∀ H', Q (.bl true) H'
theorem law_fn {fa : Addr} {x : Str} {k : Nat} {f : List T → R T} {fd : FuncData} (F : FnOk P w K mg base (L2.CX P w) k fa fd [x] (spF ⟨K, mg, P, w⟩ 1 f))
    (hf : ∀ ns : List Int, ns.length ≤ 63 → ∃ fins, f [.z (.scr ns)] = .ok (.z (.bl true)) fins) : FnOk P w K mg base (L2.CX P w) k fa fd [x] (spEnd K) :=
  F.imp fun vs H Q E h => by
    obtain ⟨a, ns, rfl, hS, hlen, q⟩ := h
    obtain ⟨fins, e⟩ := hf ns hlen
    refine ⟨rfl, H, em, em, [.z (.scr ns)], ⟨Same.refl _, Same.empty, Same.empty, Dj.em_r, Dj.em_r, Dj.em_l, fun _ _ e => e⟩, .cons (M1 := em) (M2 := em) (.z (.scr hS)) .nil (Same.refl _) (Same.refl _) Dj.em_l, ?_⟩
    rw [e]
    intro F' Mr M' H' v s r _ _ _
    cases r with
    | z r => cases r; exact q H'
end
section
variable {X : Cx} {W : WX} {bs : List Nat}
theorem lend_imp {m : M T} {σ : L2.St} {H : Hp} {Q : VK} (h : tD (gx X) W (lendM m) σ H Q) : tD (gx X) W m σ H Q := by
  obtain ⟨F, Mm, G, ts, st, k⟩ := h
  obtain ⟨M0, c0, st⟩ := st.shrink
  obtain ⟨s0, st0⟩ := st.frzAll
  refine ⟨jn F M0, em, G, ts.map frzT, st0, ?_⟩
  unfold lendM at k
  cases q : m (ts.map frzT) with
  | bad => rw [q] at k; exact k
  | ex c ts' =>
    rw [q] at k
    intro F' M' H' C s1 st1 hC
    exact k _ M0 H' C (st.back s1 st1).1 (st.back s1 st1).2 hC
  | ok t ts' =>
    rw [q] at k
    intro F' Mv M' H' v s1 r st1 d
    dsimp only at k
    by_cases hf : t.fresh = true
    · rw [if_pos hf] at k
      obtain ⟨s2, st2⟩ := st.backO s1 st1 d
      exact k (mn F' M0) Mv M0 H' v s2 (r.fresh c0 ((jn_r st.hc.fm).trans s1) hf) st2 d
    · rw [if_neg hf] at k; exact k.elim
theorem ps_setLendCompM {i : Nat} {y : Str} {py spos : Pos} {elt tg iter : Expr} {ifs : List Expr} {scope : Scope} {own : List (Str × Nat)} {pos : Pos} {mi : M (List D)} {put : D → List T → Option (List T)} {mc : M Bool} {me : M D}
    (hc : X.calm = true) (hN : X.N.Nodup) (hy : X.N[i]? = some y) (hyl : X.env.scope.names.lookup y = some .local)
    (hsw : swapsWith (.ListComp elt [⟨tg, iter, ifs, 0⟩] scope pos) (some (.Name y py)) spos.line X.env = pure true) (hi : PI X tg iter (tI (gx X) W mi)) (ok : BlkOk X.N X.env.scope scope own)
    (hg : ∀ (s : Shared) (H : Hp) (C : Addr) (cl : List (Str × Addr)) (fp : List Addr), PG (X.blk s H scope (compEnvC scope cl C X.env) fp) tg (gD (gx X) (others X.N.length (own.map (·.2))) put))
    (ht : ∀ (s : Shared) (H : Hp) (C : Addr) (cl : List (Str × Addr)) (fp : List Addr), PTs (X.blk s H scope (compEnvC scope cl C X.env) fp) ifs (tB (gx X) W0 mc))
    (he : ∀ (s : Shared) (H : Hp) (C : Addr) (cl : List (Str × Addr)) (fp : List Addr), PE (X.blk s H scope (compEnvC scope cl C X.env) fp) elt (tZ (gx X) W0 me)) (hs : ∀ x, foldedSetIterable iter X.env x = pure x)
    (hput : ∀ d ts ts', put d ts = some ts' → ts'.length = ts.length) (hb : i ∉ bs) : PS X (.Assign [.Name y py] (.ListComp elt [⟨tg, iter, ifs, 0⟩] scope pos) spos) (tS (gx X) W bs (setS i (lendM (compM mi (own.map (·.2)) put mc me)))) :=
  ⟨fun pins s σ H D I ⟨F, Mm, G, ts, sa, k⟩ => (ps_setLc hc hN hy hyl hsw hi ok hg ht he hs).run pins s σ H D I (comp_core (W := W) hput I.len (Q := fun x H1 => gName i x σ H1 D.nx) (lend_imp (tD_S sa k fun t ts1 _ k1 F1 Mv M1 H1 v s1 r st1 dj => by
    by_cases hl : i < ts1.length
    · rw [if_pos hl] at k1
      obtain ⟨M', st2⟩ := st1.assign r dj hl
      exact k1 F1 M' H1 _ s1 st2 (Pin.set hb)
    · rw [if_neg hl] at k1; exact k1.elim)))⟩
end
end Ar
/-! ArQ: how a mirror is run by simp; freezing an argument; turns of loops. -/
namespace Ar
open PySem PySem.Spec PyProof.Rows L2
def fzM (m : M T) : M T := m >>= fun t => frz t >>= fun d => M.ret (.z d)
theorem e_fzM {X : Cx} {W : WX} {e : Expr} {m : M T} (h : PE X e (tD (gx X) W m)) : PE X e (tD (gx X) W (fzM m)) :=
  pe_imp (pe_frz h) fun σ H Q ⟨F, Mm, G, ts, st, k⟩ => by
    refine ⟨F, Mm, G, ts, st, ?_⟩
    have e0 : fzM m ts = ((m >>= frz) >>= fun d => M.ret (.z d)) ts := by
      show M.andThen m (fun t => M.andThen (frz t) fun d => M.ret (T.z d)) ts = M.andThen (M.andThen m frz) (fun d => M.ret (T.z d)) ts
      unfold M.andThen
      cases m ts <;> rfl
    rw [e0] at k
    cases q : (m >>= frz) ts with
    | bad => rw [bind_bad q] at k; exact k
    | ex c ts' => rw [bind_ex q] at k; exact k
    | ok d ts' =>
      rw [bind_ok q] at k
      intro F' M' H' v s r st1
      exact k F' em M' H' v s (.z r) st1 Dj.em_l
theorem fn_okE {P : Program} {w : World} {K : PySem.W.Frag} {mg : Str → Option Value} {base : Heap} {x qual : Str} {st : Stmt} {f : Addr} {fd : FuncData} {N ps : List Str} {k ex : Nat} {m : S} {kp : List Bool} (hex : N.length - ps.length = ex) (F : Fun K x qual st f fd) (Sc : FnScope N ps (defScope st)) (hkp : kp.length = ps.length)
    (hbody : ∀ (cdv : Value) (A : Around) (outer : List Env) (s : Shared) (H : Hp) (E : XK), Room k (A.deeper (envOfC qual (defScope st) s.heap.objs.size f cdv)) →
      PSs (cxOf (L2.CX P w) P w K mg base N qual (defScope st) f cdv A outer s H E) (defBody st) (tS ⟨K, mg, P, w⟩ (fun c d _ H => E c d H) (keptOf 0 kp) m)) :
    FnOk P w K mg base (L2.CX P w) (k + 1) f fd ps (spF ⟨K, mg, P, w⟩ ps.length (bodyR ex kp m)) := by
  subst hex
  exact fn_okM F Sc hkp hbody
/-! ### results, run on -/
section
variable {α β : Type}
def R.and (r : R α) (f : α → List T → R β) : R β := match r with
  | .ok a ts => f a ts
  | .ex c ts => .ex c ts
  | .bad => .bad
def R.andS (r : R α) (f : α → List T → RS) : RS := match r with
  | .ok a ts => f a ts
  | .ex c ts => .ex c ts
  | .bad => .bad
def RS.thn (r : RS) (n : S) : RS := match r with
  | .nx ts => n ts
  | r => r
def RS.fin (r : RS) (n : Nat) (kp : List Bool) : R T := match r with
  | .nx ts => if ts.length = n then .ok (.z .non) (pickP kp ts) else .bad
  | .rt t ts => if ts.length = n then .ok t (pickP kp ts) else .bad
  | .ex c ts => if ts.length = n then .ex c (pickP kp ts) else .bad
  | _ => .bad
def R.lend (r : R T) (ts : List T) : R T := match r with
  | .ok t _ => if t.fresh = true then .ok t ts else .bad
  | .ex c _ => .ex c ts
  | .bad => .bad
def R.lendB (r : R Bool) (ts : List T) : R Bool := match r with
  | .ok t _ => .ok t ts
  | .ex c _ => .ex c ts
  | .bad => .bad
def R.give (r : R T) (tks : List (Option Nat)) (tl ts1 : List T) : R T := match r with
  | .ok t fins => .ok t (giveB tks tl fins ts1)
  | .ex c fins => .ex c (giveB tks tl fins ts1)
  | .bad => .bad
def R.wipe (r : R α) (vs : List Nat) : R α := match r with
  | .ok a ts => .ok a (wipeT ts vs)
  | .ex c ts => .ex c ts
  | .bad => .bad
@[simp] theorem and_ok (a : α) (ts) (f : α → List T → R β) : R.and (.ok a ts) f = f a ts := rfl
@[simp] theorem and_ex (c) (ts) (f : α → List T → R β) : R.and (.ex c ts) f = .ex c ts := rfl
@[simp] theorem and_bad (f : α → List T → R β) : R.and .bad f = .bad := rfl
@[simp] theorem andS_ok (a : α) (ts) (f : α → List T → RS) : R.andS (.ok a ts) f = f a ts := rfl
@[simp] theorem andS_ex (c) (ts) (f : α → List T → RS) : R.andS (.ex c ts) f = .ex c ts := rfl
@[simp] theorem andS_bad (f : α → List T → RS) : R.andS .bad f = .bad := rfl
@[simp] theorem thn_nx (ts) (n : S) : RS.thn (.nx ts) n = n ts := rfl
@[simp] theorem thn_rt (t ts) (n : S) : RS.thn (.rt t ts) n = .rt t ts := rfl
@[simp] theorem thn_bk (ts) (n : S) : RS.thn (.bk ts) n = .bk ts := rfl
@[simp] theorem thn_ct (ts) (n : S) : RS.thn (.ct ts) n = .ct ts := rfl
@[simp] theorem thn_ex (c ts) (n : S) : RS.thn (.ex c ts) n = .ex c ts := rfl
@[simp] theorem thn_bad (n : S) : RS.thn .bad n = .bad := rfl
@[simp] theorem fin_nx (ts n kp) : RS.fin (.nx ts) n kp = if ts.length = n then .ok (.z .non) (pickP kp ts) else .bad := rfl
@[simp] theorem fin_rt (t ts n kp) : RS.fin (.rt t ts) n kp = if ts.length = n then .ok t (pickP kp ts) else .bad := rfl
@[simp] theorem fin_ex (c ts n kp) : RS.fin (.ex c ts) n kp = if ts.length = n then .ex c (pickP kp ts) else .bad := rfl
@[simp] theorem lend_ok (t ts' ts) : R.lend (.ok t ts') ts = if t.fresh = true then .ok t ts else .bad := rfl
@[simp] theorem lend_ex (c ts' ts) : R.lend (.ex c ts') ts = .ex c ts := rfl
@[simp] theorem lendB_ok (t ts' ts) : R.lendB (.ok t ts') ts = .ok t ts := rfl
@[simp] theorem lendB_ex (c ts' ts) : R.lendB (.ex c ts') ts = .ex c ts := rfl
@[simp] theorem giveR_ok (t fins tks tl ts1) : R.give (.ok t fins) tks tl ts1 = .ok t (giveB tks tl fins ts1) := rfl
@[simp] theorem giveR_ex (c fins tks tl ts1) : R.give (.ex c fins) tks tl ts1 = .ex c (giveB tks tl fins ts1) := rfl
@[simp] theorem wipe_ok (a : α) (ts vs) : R.wipe (.ok a ts) vs = .ok a (wipeT ts vs) := rfl
@[simp] theorem bind_ap (m : M α) (f : α → M β) (ts) : (m >>= f) ts = (m ts).and f := by
  show M.andThen m f ts = _
  unfold M.andThen R.and
  cases m ts <;> rfl
@[simp] theorem bindS_ap (m : M α) (f : α → S) (ts) : bindS m f ts = (m ts).andS f := by
  unfold bindS R.andS
  cases m ts <;> rfl
end
@[simp] theorem ret_ap {α : Type} (a : α) (ts) : (M.ret a : M α) ts = .ok a ts := rfl
@[simp] theorem stop_ap {α : Type} (ts) : (stop : M α) ts = .bad := rfl
@[simp] theorem RS_nx_ap (ts) : RS.nx ts = RS.nx ts := rfl
@[simp] theorem sq_ap (m n : S) (ts) : sq m n ts = (m ts).thn n := by
  unfold sq RS.thn
  cases m ts <;> rfl
@[simp] theorem bodyR_ap (n kp) (m : S) (ts) : bodyR n kp m ts = (m (ts ++ List.replicate n .gone)).fin (ts.length + n) kp := by
  unfold bodyR RS.fin
  cases m (ts ++ List.replicate n .gone) <;> rfl
@[simp] theorem ifS_ap (c : M Bool) (m n : S) (ts) : ifS c m n ts = (c ts).andS fun b ts1 => if b = true then m ts1 else n ts1 := by
  unfold ifS
  rw [bindS_ap]
  congr 1
  funext b ts1
  cases b <;> rfl
@[simp] theorem retS_ap (m : M T) (ts) : retS m ts = (m ts).andS RS.rt := by unfold retS; rw [bindS_ap]
@[simp] theorem exprS_ap (m : M T) (ts) : exprS m ts = (m ts).andS fun _ ts1 => .nx ts1 := by unfold exprS; rw [bindS_ap]
@[simp] theorem setS_ap (i) (m : M T) (ts) : setS i m ts = (m ts).andS fun t ts1 => if i < ts1.length then .nx (ts1.set i t) else .bad := by unfold setS; rw [bindS_ap]
@[simp] theorem andB_ap (m n : M Bool) (ts) : andB m n ts = (m ts).and fun b ts1 => if b = true then n ts1 else .ok false ts1 := by
  unfold andB; rw [bind_ap]; congr 1; funext b ts1; cases b <;> rfl
@[simp] theorem orB_ap (m n : M Bool) (ts) : orB m n ts = (m ts).and fun b ts1 => if b = true then .ok true ts1 else n ts1 := by
  unfold orB; rw [bind_ap]; congr 1; funext b ts1; cases b <;> rfl
@[simp] theorem andV_ap (m n : M T) (ts) : andV m n ts = (m ts).and fun t ts1 => (asB t ts1).and fun b ts2 => if b = true then n ts2 else .ok (.z (.bl false)) ts2 := by
  unfold andV; rw [bind_ap, bind_ap]
  cases m ts with
  | ok t ts1 => rw [and_ok, and_ok]; congr 1; funext b ts2; cases b <;> rfl
  | ex c t => rfl
  | bad => rfl
@[simp] theorem orV_ap (m n : M T) (ts) : orV m n ts = (m ts).and fun t ts1 => (asB t ts1).and fun b ts2 => if b = true then .ok (.z (.bl true)) ts2 else n ts2 := by
  unfold orV; rw [bind_ap, bind_ap]
  cases m ts with
  | ok t ts1 => rw [and_ok, and_ok]; congr 1; funext b ts2; cases b <;> rfl
  | ex c t => rfl
  | bad => rfl
@[simp] theorem notV_ap (m : M T) (ts) : notV m ts = (m ts).and fun t ts1 => (asB t ts1).and fun b ts2 => .ok (.z (.bl !b)) ts2 := by
  unfold notV; rw [bind_ap, bind_ap]
  cases m ts with
  | ok t ts1 => rw [and_ok, and_ok]; rfl
  | ex c t => rfl
  | bad => rfl
@[simp] theorem ifV_ap (c : M Bool) (m n : M T) (ts) : ifV c m n ts = (c ts).and fun b ts1 => if b = true then m ts1 else n ts1 := by
  unfold ifV; rw [bind_ap]; congr 1; funext b ts1; cases b <;> rfl
@[simp] theorem asB_bl (b ts) : asB (.z (.bl b)) ts = .ok b ts := rfl
@[simp] theorem notB_ap (m : M Bool) (ts) : notB m ts = (m ts).and fun b ts1 => .ok (!b) ts1 := by unfold notB; rw [bind_ap]; rfl
@[simp] theorem tsB_ap (m : M T) (ts) : tsB m ts = (m ts).and asB := by unfold tsB; rw [bind_ap]
@[simp] theorem binA_ap (f ma mc ts) : binA f ma mc ts = (ma ts).and fun x ts1 => (see mc ts1).and fun y ts2 => opt (f x y) ts2 := by
  unfold binA; rw [bind_ap]; congr 1
@[simp] theorem binZ_ap (f ma mb ts) : binZ f ma mb ts = (ma ts).and fun x ts1 => (mb ts1).and fun y ts2 => opt (f x y) ts2 := by
  unfold binZ; rw [bind_ap]; congr 1
@[simp] theorem un1_ap (f) (ma : M D) (ts) : un1 f ma ts = (ma ts).and fun y ts1 => opt (f y) ts1 := by unfold un1; rw [bind_ap]
@[simp] theorem zT_ap (m : M T) (ts) : zT m ts = (m ts).and fun t ts1 => opt t.fz ts1 := by unfold zT; rw [bind_ap]; rfl
@[simp] theorem fzM_ap (m : M T) (ts) : fzM m ts = (m ts).and fun t ts1 => (opt t.fz ts1).and fun d ts2 => .ok (.z d) ts2 := by unfold fzM; rw [bind_ap]; congr 1
@[simp] theorem kA_ap (d ts) : kA d ts = some d := rfl
@[simp] theorem kT_ap (d ts) : kT d ts = .ok (.z d) ts := rfl
@[simp] theorem see_ap (m ts) : see m ts = opt (m ts) ts := rfl
@[simp] theorem seeN_ap (i ts) : seeN i ts = (ts[i]?).bind T.vw := rfl
@[simp] theorem isN_ap (m : M D) (ts) : isN m ts = (m ts).and fun d ts1 => .ok (.z (.bl (isNonD d))) ts1 := by unfold isN; rw [bind_ap]; rfl
@[simp] theorem isNN_ap (m : M D) (ts) : isNN m ts = (m ts).and fun d ts1 => .ok (.z (.bl !isNonD d)) ts1 := by unfold isNN; rw [bind_ap]; rfl
@[simp] theorem isNB_ap (m : M D) (ts) : isNB m ts = (m ts).and fun d ts1 => .ok (isNonD d) ts1 := by unfold isNB; rw [bind_ap]; rfl
@[simp] theorem isNNB_ap (m : M D) (ts) : isNNB m ts = (m ts).and fun d ts1 => .ok (!isNonD d) ts1 := by unfold isNNB; rw [bind_ap]; rfl
@[simp] theorem isiM_ap (t m ts) : isiM t m ts = (m ts).and fun d ts1 => opt (isi t d) ts1 := by unfold isiM; rw [bind_ap]
@[simp] theorem isi2M_ap (t u m ts) : isi2M t u m ts = (m ts).and fun d ts1 => opt (isi2 t u d) ts1 := by unfold isi2M; rw [bind_ap]
@[simp] theorem itM_ap (f) (m : M D) (ts) : itM f m ts = (m ts).and fun d ts1 => opt (f d) ts1 := by unfold itM; rw [bind_ap]
@[simp] theorem it2M_ap (f) (m n : M D) (ts) : it2M f m n ts = (m ts).and fun d ts1 => (n ts1).and fun e ts2 => opt (f d e) ts2 := by
  unfold it2M; rw [bind_ap]; congr 1
@[simp] theorem isNonD_non : isNonD .non = true := rfl
@[simp] theorem isNonD_int (i) : isNonD (.int i) = false := rfl
@[simp] theorem isNonD_bl (i) : isNonD (.bl i) = false := rfl
@[simp] theorem isNonD_str (i) : isNonD (.str i) = false := rfl
@[simp] theorem isNonD_lst (i) : isNonD (.lst i) = false := rfl
@[simp] theorem isNonD_tup (i) : isNonD (.tup i) = false := rfl
@[simp] theorem isNonD_dk (i) : isNonD (.dk i) = false := rfl
/-! names -/
def rdF (i : Nat) (ts : List T) : Option D → R T
  | some d => .ok (.z d) (ts.set i (.z d))
  | none => .bad
def rdT (i : Nat) (ts : List T) : Option T → R T
  | some t => rdF i ts t.fz
  | none => .bad
@[simp] theorem rdF_some (i ts d) : rdF i ts (some d) = .ok (.z d) (ts.set i (.z d)) := rfl
@[simp] theorem rdT_some (i ts t) : rdT i ts (some t) = rdF i ts t.fz := rfl
@[simp] theorem rdz_ap (i ts) : rdz i ts = rdT i ts ts[i]? := by
  unfold rdz rdT
  cases ts[i]? with
  | none => rfl
  | some t =>
    show (match t.fz with | some d => R.ok (T.z d) (ts.set i (T.z d)) | none => R.bad) = rdF i ts t.fz
    unfold rdF
    cases t.fz <;> rfl
def mvT (i : Nat) (ts : List T) : Option T → R T
  | some (.z d) => .ok (.z d) ts
  | some .gone => .bad
  | some t => .ok t (ts.set i .gone)
  | none => .bad
@[simp] theorem mvT_z (i ts d) : mvT i ts (some (.z d)) = .ok (.z d) ts := rfl
@[simp] theorem mvT_l (i ts d) : mvT i ts (some (.l d)) = .ok (.l d) (ts.set i .gone) := rfl
@[simp] theorem mvT_dk (i ts d) : mvT i ts (some (.dk d)) = .ok (.dk d) (ts.set i .gone) := rfl
@[simp] theorem mvT_dt (i ts d) : mvT i ts (some (.dt d)) = .ok (.dt d) (ts.set i .gone) := rfl
@[simp] theorem mvT_ob (i ts c d) : mvT i ts (some (.ob c d)) = .ok (.ob c d) (ts.set i .gone) := rfl
@[simp] theorem mv_ap (i ts) : mv i ts = mvT i ts ts[i]? := by
  unfold mv mvT
  cases ts[i]? with
  | none => rfl
  | some t => cases t <;> rfl
def liveO : Option T → Bool
  | some .gone => false
  | some _ => true
  | none => false
@[simp] theorem liveO_z (d) : liveO (some (.z d)) = true := rfl
@[simp] theorem liveO_l (d) : liveO (some (.l d)) = true := rfl
@[simp] theorem liveO_dk (d) : liveO (some (.dk d)) = true := rfl
@[simp] theorem liveO_dt (d) : liveO (some (.dt d)) = true := rfl
@[simp] theorem liveO_ob (c d) : liveO (some (.ob c d)) = true := rfl
@[simp] theorem live_ap (i ts) : live i ts = liveO ts[i]? := by
  unfold live liveO
  cases ts[i]? with
  | none => rfl
  | some t => cases t <;> rfl
@[simp] theorem argEx_ap (m : M T) (ms : M (List T)) (ts) : argEx m ms ts = (m ts).and fun t ts1 => (ms ts1).and fun tl ts2 => .ok (t :: tl) ts2 := by
  unfold argEx; rw [bind_ap]; congr 1
@[simp] theorem argTk_ap (i) (ms : M (List T)) (ts) : argTk i ms ts = if liveO ts[i]? = true then (ms ts).and fun tl ts1 => (mvT i ts1 ts1[i]?).and fun t ts2 => .ok (t :: tl) ts2 else .bad := by
  unfold argTk
  rw [live_ap]
  split
  · rw [bind_ap]; congr 1
  · rfl
@[simp] theorem callM_ap (f tks ms ts) : callM f tks ms ts = (ms ts).and fun tl ts1 => (f tl).give tks tl ts1 := by
  unfold callM R.and R.give
  cases ms ts with
  | ok tl ts1 => cases q : f tl <;> simp [q]
  | ex c t => rfl
  | bad => rfl
@[simp] theorem giveB_nil (a b ts) : giveB [] a b ts = ts := rfl
@[simp] theorem giveB_cons (o tks t tl fin fins ts) : giveB (o :: tks) (t :: tl) (fin :: fins) ts = giveB tks tl fins (give1 o t fin ts) := rfl
@[simp] theorem give1_none (t fin ts) : give1 none t fin ts = ts := rfl
@[simp] theorem give1_z (i d fin ts) : give1 (some i) (.z d) fin ts = ts := rfl
@[simp] theorem give1_l (i d fin ts) : give1 (some i) (.l d) fin ts = ts.set i fin := rfl
@[simp] theorem give1_dk (i d fin ts) : give1 (some i) (.dk d) fin ts = ts.set i fin := rfl
@[simp] theorem give1_dt (i d fin ts) : give1 (some i) (.dt d) fin ts = ts.set i fin := rfl
@[simp] theorem give1_ob (i c d fin ts) : give1 (some i) (.ob c d) fin ts = ts.set i fin := rfl
@[simp] theorem tupM_ap (ms ts) : tupM ms ts = (ms ts).and fun tl ts1 => (opt (T.fzs tl) ts1).and fun ds ts2 => if ds.length ≤ lim then .ok (.z (.tup ds)) ts2 else .bad := by
  unfold tupM; rw [bind_ap]; congr 1; funext tl ts1
  cases T.fzs tl with
  | none => rfl
  | some ds => rw [opt_some, and_ok]; dsimp only; split <;> rfl
@[simp] theorem lstM_ap (ms ts) : lstM ms ts = (ms ts).and fun tl ts1 => if tl.length ≤ lim then .ok (.l tl) ts1 else .bad := by
  unfold lstM; rw [bind_ap]; congr 1; funext tl ts1; split <;> rfl
@[simp] theorem lendM_ap (m ts) : lendM m ts = (m (ts.map frzT)).lend ts := by
  unfold lendM R.lend
  cases m (ts.map frzT) <;> rfl
@[simp] theorem lendB_ap (m ts) : lendB m ts = (m (ts.map frzT)).lendB ts := by
  unfold lendB R.lendB
  cases m (ts.map frzT) <;> rfl
def frzO : Option (List D) → T
  | some ds => .z (.lst ds)
  | none => .gone
@[simp] theorem frzO_some (ds) : frzO (some ds) = .z (.lst ds) := rfl
@[simp] theorem frzT_z (d) : frzT (.z d) = .z d := rfl
@[simp] theorem frzT_gone : frzT .gone = .gone := rfl
@[simp] theorem frzT_l (l) : frzT (.l l) = frzO (T.fzs l) := by
  show (match T.fz (.l l) with | some d => T.z d | none => .gone) = _
  rw [T.fz]
  cases T.fzs l <;> rfl
/-! data -/
def cons2 {α : Type} : Option α → Option (List α) → Option (List α)
  | some a, some l => some (a :: l)
  | _, _ => none
@[simp] theorem cons2_some {α : Type} (a : α) (l) : cons2 (some a) (some l) = some (a :: l) := rfl
@[simp] theorem fz_z (d) : T.fz (.z d) = some d := rfl
@[simp] theorem fz_l_eq (l) : T.fz (.l l) = (T.fzs l).map D.lst := by rw [T.fz]; cases T.fzs l <;> rfl
@[simp] theorem fzs_nil : T.fzs [] = some [] := rfl
@[simp] theorem fzs_cons (t ts) : T.fzs (t :: ts) = cons2 t.fz (T.fzs ts) := by
  rw [T.fzs]; cases T.fz t <;> cases T.fzs ts <;> rfl
@[simp] theorem fzs_zmap (ds : List D) : T.fzs (ds.map T.z) = some ds := fzs_z ds
@[simp] theorem vw_z (d) : T.vw (.z d) = some d := rfl
@[simp] theorem vw_l_eq (l) : T.vw (.l l) = (vwz l).map D.lst := by rw [T.vw]; cases vwz l <;> rfl
@[simp] theorem vwz_nil : vwz [] = some [] := rfl
@[simp] theorem vwz_cons (d ts) : vwz (.z d :: ts) = cons2 (some d) (vwz ts) := by rw [vwz]; cases vwz ts <;> rfl
@[simp] theorem vwz_map (ds : List D) : vwz (ds.map T.z) = some ds := vwz_of ds
@[simp] theorem fresh_z (d) : T.fresh (.z d) = d.atom := by rw [T.fresh]
@[simp] theorem fresh_l (l) : T.fresh (.l l) = T.freshs l := by rw [T.fresh]
@[simp] theorem fresh_dk (l) : T.fresh (.dk l) = T.freshk l := by rw [T.fresh]
@[simp] theorem fresh_ob (c l) : T.fresh (.ob c l) = T.fresho l := by rw [T.fresh]
@[simp] theorem fresh_gone : T.fresh .gone = true := by rw [T.fresh]
@[simp] theorem freshs_nil : T.freshs [] = true := by rw [T.freshs]
@[simp] theorem freshs_cons (t ts) : T.freshs (t :: ts) = (T.fresh t && T.freshs ts) := by rw [T.freshs]
@[simp] theorem freshk_nil : T.freshk [] = true := by rw [T.freshk]
@[simp] theorem freshk_cons (k t ts) : T.freshk ((k, t) :: ts) = (T.fresh t && T.freshk ts) := by rw [T.freshk]
@[simp] theorem fresho_nil : T.fresho [] = true := by rw [T.fresho]
@[simp] theorem fresho_cons (k t ts) : T.fresho ((k, t) :: ts) = (T.fresh t && T.fresho ts) := by rw [T.fresho]
@[simp] theorem atom_int (i) : D.atom (.int i) = true := by rw [D.atom]
@[simp] theorem atom_bl (i) : D.atom (.bl i) = true := by rw [D.atom]
@[simp] theorem atom_str (i) : D.atom (.str i) = true := by rw [D.atom]
@[simp] theorem atom_non : D.atom .non = true := by rw [D.atom]
@[simp] theorem atom_tup (l) : D.atom (.tup l) = D.atoms l := by rw [D.atom]
@[simp] theorem atoms_nil : D.atoms [] = true := by rw [D.atoms]
@[simp] theorem atoms_cons (d l) : D.atoms (d :: l) = (D.atom d && D.atoms l) := by rw [D.atoms]
@[simp] theorem isZ_z (d) : T.isZ (.z d) = true := rfl
@[simp] theorem isZ_l (d) : T.isZ (.l d) = false := rfl
@[simp] theorem pickP_t (r t ts) : pickP (true :: r) (t :: ts) = t :: pickP r ts := rfl
@[simp] theorem pickP_f (r t ts) : pickP (false :: r) (t :: ts) = .gone :: pickP r ts := rfl
@[simp] theorem pickP_nil (ts) : pickP [] ts = [] := by cases ts <;> rfl
/-! lists of numbers -/
def nT (l : List Int) : List T := l.map fun i => T.z (D.int i)
def nD (l : List Int) : List D := l.map D.int
@[simp] theorem nD_nT (l) : (nD l).map T.z = nT l := by unfold nD nT; rw [List.map_map]; rfl
@[simp] theorem map_nT (l : List Int) : (l.map fun i => T.z (D.int i)) = nT l := rfl
@[simp] theorem map_nD (l : List Int) : (l.map D.int) = nD l := rfl
@[simp] theorem fzs_nT (l) : T.fzs (nT l) = some (nD l) := by rw [← nD_nT, fzs_z]
@[simp] theorem vwz_nT (l) : vwz (nT l) = some (nD l) := by rw [← nD_nT, vwz_of]
@[simp] theorem freshs_nT (l) : T.freshs (nT l) = true := by
  induction l with
  | nil => rfl
  | cons x l ih => show T.freshs (.z (.int x) :: nT l) = true; rw [freshs_cons, ih, fresh_z, atom_int]; rfl
@[simp] theorem nD_length (l) : (nD l).length = l.length := List.length_map _
@[simp] theorem nT_length (l) : (nT l).length = l.length := List.length_map _
@[simp] theorem nD_append (a b) : nD a ++ nD b = nD (a ++ b) := (List.map_append ..).symm
@[simp] theorem nT_append (a b) : nT a ++ nT b = nT (a ++ b) := (List.map_append ..).symm
@[simp] theorem nD_app1 (a i) : nD a ++ [.int i] = nD (a ++ [i]) := nD_append a [i]
@[simp] theorem nT_app1 (a i) : nT a ++ [.z (.int i)] = nT (a ++ [i]) := nT_append a [i]
theorem nD_nil : nD [] = [] := rfl
theorem nT_nil : nT [] = [] := rfl
theorem nD_cons (a l) : nD (a :: l) = .int a :: nD l := rfl
theorem nT_cons (a l) : nT (a :: l) = .z (.int a) :: nT l := rfl
@[simp] theorem nD_get (l : List Int) (i : Nat) : (nD l)[i]? = (l[i]?).map D.int := List.getElem?_map ..
@[simp] theorem nT_get (l : List Int) (i : Nat) : (nT l)[i]? = (l[i]?).map fun i => T.z (D.int i) := List.getElem?_map ..
@[simp] theorem intsD_nD (l) : intsD (nD l) = some l := by
  induction l with
  | nil => rfl
  | cons x l ih => show intsD (.int x :: nD l) = _; rw [intsD, ih]; rfl
theorem nD_inj {a b : List Int} (h : nD a = nD b) : a = b := by
  have := congrArg intsD h
  rw [intsD_nD, intsD_nD] at this
  exact Option.some.inj this
@[simp] theorem nD_take (l : List Int) (k) : (nD l).take k = nD (l.take k) := (List.map_take ..).symm
@[simp] theorem nT_take (l : List Int) (k) : (nT l).take k = nT (l.take k) := (List.map_take ..).symm
@[simp] theorem nD_drop (l : List Int) (k) : (nD l).drop k = nD (l.drop k) := (List.map_drop ..).symm
@[simp] theorem nT_drop (l : List Int) (k) : (nT l).drop k = nT (l.drop k) := (List.map_drop ..).symm
theorem cut_to {α : Type} (xs : List α) {k : Int} (h : 0 ≤ k) : cutD xs none (some k) = xs.take k.toNat := by
  unfold cutD
  show (xs.drop 0).take ((if k < 0 then (k + (xs.length : Int)).toNat else min k.toNat xs.length) - 0) = _
  rw [if_neg (by omega), List.drop_zero, Nat.sub_zero]
  by_cases hl : k.toNat ≤ xs.length
  · rw [Nat.min_eq_left hl]
  · rw [Nat.min_eq_right (by omega), List.take_of_length_le (Nat.le_refl _), List.take_of_length_le (by omega)]
theorem cut_from {α : Type} (xs : List α) {k : Int} (h : 0 ≤ k) : cutD xs (some k) none = xs.drop k.toNat := by
  unfold cutD
  show (xs.drop (if k < 0 then (k + (xs.length : Int)).toNat else min k.toNat xs.length)).take (xs.length - (if k < 0 then (k + (xs.length : Int)).toNat else min k.toNat xs.length)) = _
  rw [if_neg (by omega)]
  by_cases hl : k.toNat ≤ xs.length
  · rw [Nat.min_eq_left hl, List.take_of_length_le (by rw [List.length_drop]; omega)]
  · rw [Nat.min_eq_right (by omega), List.drop_of_length_le (by omega : xs.length ≤ k.toNat)]; simp
@[simp] theorem cutD_nT (l : List Int) (a b) : cutD (nT l) a b = nT (cutD l a b) := by unfold cutD; simp
@[simp] theorem cutD_nD (l : List Int) (a b) : cutD (nD l) a b = nD (cutD l a b) := by unfold cutD; simp
theorem cutD_length {α : Type} (xs : List α) (a b) : (cutD xs a b).length ≤ xs.length := by
  unfold cutD
  rw [List.length_take, List.length_drop]; omega
@[simp] theorem slM_ap (ma lo hi ts) : slM ma lo hi ts = (ma ts).and fun d ts1 => (optI lo ts1).and fun l ts2 => (optI hi ts2).and fun h ts3 => opt (oSl d l h) ts3 := by
  unfold slM
  rw [bind_ap]
  congr 1
@[simp] theorem optI_none (ts) : optI none ts = .ok none ts := rfl
@[simp] theorem optI_some (m ts) : optI (some m) ts = (m ts).and fun d ts1 => (opt (toI d) ts1).and fun i ts2 => .ok (some i) ts2 := by
  show (m >>= fun d => match toI d with | some i => M.ret (some i) | none => stop) ts = _
  rw [bind_ap]
  congr 1
  funext d ts1
  cases toI d <;> rfl
@[simp] theorem oSl_nD (l a b) : oSl (.lst (nD l)) a b = some (.l (nT (cutD l a b))) := by
  show some (T.l ((cutD (nD l) a b).map .z)) = _
  rw [cutD_nD, nD_nT]
@[simp] theorem oSl_scr (l a b) : oSl (.scr l) a b = some (.l (nT (cutD l a b))) := rfl
/-! operations on data -/
@[simp] theorem oAdd_int (i j) : oAdd (.int i) (.int j) = some (.z (.int (i + j))) := rfl
@[simp] theorem oAdd_lst (a b) : oAdd (.lst a) (.lst b) = if a.length + b.length ≤ lim then some (.l ((a ++ b).map .z)) else none := rfl
@[simp] theorem oAdd_tup (a b) : oAdd (.tup a) (.tup b) = if a.length + b.length ≤ lim then some (.z (.tup (a ++ b))) else none := rfl
@[simp] theorem oAdd_str (a b) : oAdd (.str a) (.str b) = if a.length + b.length ≤ lim then some (.z (.str (a ++ b))) else none := rfl
@[simp] theorem oSub_int (i j) : oSub (.int i) (.int j) = some (.z (.int (i - j))) := rfl
@[simp] theorem oMul_int (i j) : oMul (.int i) (.int j) = if small i ∨ small j ∨ (i.natAbs < bigN ∧ j.natAbs < bigN) then some (.z (.int (i * j))) else none := by unfold oMul; rfl
@[simp] theorem oDiv_int (i j) : oDiv (.int i) (.int j) = if 0 < j ∧ j.natAbs < bigN then some (.z (.int (i / j))) else none := by unfold oDiv; rfl
@[simp] theorem oMod_int (i j) : oMod (.int i) (.int j) = if 0 < j then some (.z (.int (i % j))) else none := by unfold oMod; rfl
@[simp] theorem oPow_int (i j) : oPow (.int i) (.int j) = if 0 ≤ j ∧ j ≤ 1000000 ∧ small i then some (.z (.int (i ^ j.toNat))) else none := by unfold oPow; rfl
@[simp] theorem oLt_int (i j) : oLt (.int i) (.int j) = some (.z (.bl (decide (i < j)))) := rfl
@[simp] theorem oLe_int (i j) : oLe (.int i) (.int j) = some (.z (.bl (decide (i ≤ j)))) := rfl
@[simp] theorem oGt_int (i j) : oGt (.int i) (.int j) = some (.z (.bl (decide (j < i)))) := rfl
@[simp] theorem oGe_int (i j) : oGe (.int i) (.int j) = some (.z (.bl (decide (j ≤ i)))) := rfl
@[simp] theorem oNeg_int (i) : oNeg (.int i) = some (.z (.int (-i))) := rfl
@[simp] theorem oAbs_int (i) : oAbs (.int i) = some (.z (.int (if i < 0 then -i else i))) := rfl
@[simp] theorem oLen_lst (l) : oLen (.lst l) = some (.z (.int l.length)) := rfl
@[simp] theorem oLen_tup (l) : oLen (.tup l) = some (.z (.int l.length)) := rfl
@[simp] theorem oLen_scr (l) : oLen (.scr l) = some (.z (.int l.length)) := rfl
@[simp] theorem oLen_dk (l) : oLen (.dk l) = some (.z (.int l.length)) := rfl
@[simp] theorem oLen_st (l) : oLen (.st l) = if l.length < 4000 then some (.z (.int l.length)) else none := rfl
@[simp] theorem oList_lst (l) : oList (.lst l) = some (.l (l.map .z)) := rfl
@[simp] theorem oList_tup (l) : oList (.tup l) = some (.l (l.map .z)) := rfl
@[simp] theorem oTuple_lst (l) : oTuple (.lst l) = some (.z (.tup l)) := rfl
@[simp] theorem oTuple_tup (l) : oTuple (.tup l) = some (.z (.tup l)) := rfl
@[simp] theorem oSet_nD (l) : oSet (.lst (nD l)) = if l.length < 4000 then some (.z (.st (ddp l))) else none := by
  show (match intsD (nD l) with | some ns => if ns.length < 4000 then some (T.z (.st (ddp ns))) else none | none => none) = _
  rw [intsD_nD]
@[simp] theorem oSet_nDt (l) : oSet (.tup (nD l)) = if l.length < 4000 then some (.z (.st (ddp l))) else none := by
  show (match intsD (nD l) with | some ns => if ns.length < 4000 then some (T.z (.st (ddp ns))) else none | none => none) = _
  rw [intsD_nD]
@[simp] theorem oSorted_st (l) : oSorted (.st l) = if l.length < 64 then some (.l (nT (isort l))) else none := rfl
@[simp] theorem oSorted_nD (l) : oSorted (.lst (nD l)) = some (.l (nT (isort l))) := by
  show (match intsD (nD l) with | some ns => some (T.l ((isort ns).map fun i => .z (.int i))) | none => none) = _
  rw [intsD_nD]; rfl
@[simp] theorem oSum_nD (l) : oSum (.lst (nD l)) = some (.z (.int l.sum)) := by
  show (match intsD (nD l) with | some ns => some (T.z (.int ns.sum)) | none => none) = _
  rw [intsD_nD]
@[simp] theorem oSum_nDt (l) : oSum (.tup (nD l)) = some (.z (.int l.sum)) := by
  show (match intsD (nD l) with | some ns => some (T.z (.int ns.sum)) | none => none) = _
  rw [intsD_nD]
@[simp] theorem itemsOf_lst (l) : itemsOf (.lst l) = some l := rfl
@[simp] theorem itemsOf_tup (l) : itemsOf (.tup l) = some l := rfl
@[simp] theorem itemsOf_scr (l) : itemsOf (.scr l) = some (nD l) := rfl
@[simp] theorem toI_int (i) : toI (.int i) = some i := rfl
@[simp] theorem rng1_int (j) : rng1 (.int j) = if big62 j then some (upto 0 j) else none := by unfold rng1; rfl
@[simp] theorem rng2_int (i j) : rng2 (.int i) (.int j) = if big62 i ∧ big62 j then some (upto i j) else none := by unfold rng2; rfl
@[simp] theorem oIx_lst (l i) : oIx (.lst l) (.int i) = (atI l i).map .z := rfl
@[simp] theorem oIx_tup (l i) : oIx (.tup l) (.int i) = (atI l i).map .z := rfl
@[simp] theorem atI_nat {α : Type} (l : List α) (i : Nat) : atI l (i : Int) = l[i]? := by
  unfold atI ixN
  by_cases h : i < l.length
  · rw [if_pos (by omega), if_pos (by omega)]; simp
  · rw [if_pos (by omega), if_neg (by omega), List.getElem?_eq_none (by omega)]; rfl
@[simp] theorem atI_zero {α : Type} (l : List α) : atI l 0 = l[0]? := atI_nat l 0
@[simp] theorem atI_one {α : Type} (l : List α) : atI l 1 = l[1]? := atI_nat l 1
@[simp] theorem atI_2 {α : Type} (l : List α) : atI l 2 = l[2]? := atI_nat l 2
@[simp] theorem atI_3 {α : Type} (l : List α) : atI l 3 = l[3]? := atI_nat l 3
@[simp] theorem atI_4 {α : Type} (l : List α) : atI l 4 = l[4]? := atI_nat l 4
@[simp] theorem atI_5 {α : Type} (l : List α) : atI l 5 = l[5]? := atI_nat l 5
@[simp] theorem atI_6 {α : Type} (l : List α) : atI l 6 = l[6]? := atI_nat l 6
@[simp] theorem atI_7 {α : Type} (l : List α) : atI l 7 = l[7]? := atI_nat l 7
@[simp] theorem atI_8 {α : Type} (l : List α) : atI l 8 = l[8]? := atI_nat l 8
@[simp] theorem atI_9 {α : Type} (l : List α) : atI l 9 = l[9]? := atI_nat l 9
@[simp] theorem atI_10 {α : Type} (l : List α) : atI l 10 = l[10]? := atI_nat l 10
@[simp] theorem atI_11 {α : Type} (l : List α) : atI l 11 = l[11]? := atI_nat l 11
@[simp] theorem atI_12 {α : Type} (l : List α) : atI l 12 = l[12]? := atI_nat l 12
@[simp] theorem atI_13 {α : Type} (l : List α) : atI l 13 = l[13]? := atI_nat l 13
@[simp] theorem atI_14 {α : Type} (l : List α) : atI l 14 = l[14]? := atI_nat l 14
@[simp] theorem atI_15 {α : Type} (l : List α) : atI l 15 = l[15]? := atI_nat l 15
theorem small_of {i : Int} (h1 : -18446744073709551616 < i) (h2 : i < 18446744073709551616) : small i := ⟨h1, h2⟩
/-! x[k] = e -/
def isCO : Option T → Bool
  | some (.l _) => true
  | some (.dk _) => true
  | some (.dt _) => true
  | _ => false
@[simp] theorem isCO_dt (x) : isCO (some (.dt x)) = true := rfl
@[simp] theorem isCO_l (x) : isCO (some (.l x)) = true := rfl
@[simp] theorem isCO_dk (x) : isCO (some (.dk x)) = true := rfl
def stU (i : Nat) (ts : List T) : Option T → RS
  | some u' => .nx (ts.set i u')
  | none => .bad
@[simp] theorem stU_some (i ts u) : stU i ts (some u) = .nx (ts.set i u) := rfl
def stT (i : Nat) (d : D) (t : T) (ts : List T) : Option T → RS
  | some u => stU i ts (setAt d t u)
  | none => .bad
@[simp] theorem stT_some (i d t ts u) : stT i d t ts (some u) = stU i ts (setAt d t u) := rfl
@[simp] theorem stM_ap (i) (mk : M D) (me : M T) (ts) : stM i mk me ts = (me ts).andS fun t ts1 => if isCO ts1[i]? = true then (mk ts1).andS fun d ts2 => stT i d t ts2 ts2[i]? else .bad := by
  unfold stM
  rw [bindS_ap]
  congr 1
def setK (xs : List T) (t : T) : Option Nat → Option T
  | some k => some (.l (xs.set k t))
  | none => none
@[simp] theorem setK_some (xs t k) : setK xs t (some k) = some (.l (xs.set k t)) := rfl
@[simp] theorem setAt_int (j : Int) (t xs) : setAt (.int j) t (.l xs) = setK xs t (ixN xs.length j) := rfl
@[simp] theorem ixN_nat (n i : Nat) : ixN n (i : Int) = if i < n then some i else none := by
  unfold ixN
  rw [if_pos (by omega)]
  by_cases h : i < n
  · rw [if_pos (by omega), if_pos h]; rfl
  · rw [if_neg (by omega), if_neg h]
@[simp] theorem ixN_0 (n : Nat) : ixN n 0 = if 0 < n then some 0 else none := ixN_nat n 0
@[simp] theorem ixN_1 (n : Nat) : ixN n 1 = if 1 < n then some 1 else none := ixN_nat n 1
@[simp] theorem ixN_2 (n : Nat) : ixN n 2 = if 2 < n then some 2 else none := ixN_nat n 2
@[simp] theorem ixN_3 (n : Nat) : ixN n 3 = if 3 < n then some 3 else none := ixN_nat n 3
@[simp] theorem ixN_4 (n : Nat) : ixN n 4 = if 4 < n then some 4 else none := ixN_nat n 4
@[simp] theorem ixN_5 (n : Nat) : ixN n 5 = if 5 < n then some 5 else none := ixN_nat n 5
@[simp] theorem ixN_6 (n : Nat) : ixN n 6 = if 6 < n then some 6 else none := ixN_nat n 6
@[simp] theorem ixN_7 (n : Nat) : ixN n 7 = if 7 < n then some 7 else none := ixN_nat n 7
@[simp] theorem ixN_8 (n : Nat) : ixN n 8 = if 8 < n then some 8 else none := ixN_nat n 8
@[simp] theorem ixN_9 (n : Nat) : ixN n 9 = if 9 < n then some 9 else none := ixN_nat n 9
@[simp] theorem le_lim {n : Nat} (h : n ≤ 1000000) : n ≤ lim := h
@[simp] theorem lt_lim {n : Nat} (h : n < 1000000) : n < lim := h
/-! walks -/
@[simp] theorem forS_ap (m put body ts) : forS m put body ts = (m ts).andS fun ds ts1 => loopS put body ds ts1 := by unfold forS; rw [bindS_ap]
@[simp] theorem compM_ap (mi vs put mc me ts) : compM mi vs put mc me ts = (mi ts).and fun ds ts1 => (compR vs put mc me ds ts1).and fun l ts2 => if l.length ≤ lim then .ok (.l (l.map .z)) ts2 else .bad := by
  unfold compM; rw [bind_ap]; congr 1; funext ds ts1; rw [bind_ap]; congr 1; funext l ts2; split <;> rfl
@[simp] theorem put_n (i d ts) : Tg.put (.n i) d ts = if i < ts.length then some (ts.set i (.z d)) else none := by rw [Tg.put]
@[simp] theorem put_t (l ds ts) : Tg.put (.t l) (.tup ds) ts = Tg.puts l ds ts := by rw [Tg.put]; rfl
@[simp] theorem puts_nil (ts) : Tg.puts [] [] ts = some ts := by rw [Tg.puts]
@[simp] theorem puts_cons (g gs d ds ts) : Tg.puts (g :: gs) (d :: ds) ts = (Tg.put g d ts).bind (Tg.puts gs ds) := by
  rw [Tg.puts]; cases Tg.put g d ts <;> rfl
@[simp] theorem wipeT_nil (ts) : wipeT ts [] = ts := rfl
@[simp] theorem wipeT_cons (ts v vs) : wipeT ts (v :: vs) = (wipeT ts vs).set v .gone := rfl
def putO {β : Type} (o : Option (List T)) (f : List T → R β) : R β := match o with
  | none => .bad
  | some ts1 => f ts1
@[simp] theorem putO_some {β : Type} (ts1) (f : List T → R β) : putO (some ts1) f = f ts1 := rfl
def cTurn (put : D → List T → Option (List T)) (mc : M Bool) (me : M D) (d : D) (ts : List T) : R (Option D) :=
  putO (put d ts) fun ts1 => (mc ts1).and fun b ts2 => if b = true then (me ts2).and fun y ts3 => .ok (some y) ts3 else .ok none ts2
@[simp] theorem cTurn_ap (put mc me d ts) : cTurn put mc me d ts = putO (put d ts) fun ts1 => (mc ts1).and fun b ts2 => if b = true then (me ts2).and fun y ts3 => .ok (some y) ts3 else .ok none ts2 := rfl
theorem wipeT_wipeT (ts : List T) (vs : List Nat) : wipeT (wipeT ts vs) vs = wipeT ts vs := by
  refine List.ext_getElem? fun i => ?_
  have key : ∀ (vs : List Nat) (us : List T), (wipeT us vs)[i]? = if i ∈ vs then (if i < us.length then some .gone else none) else us[i]? := fun vs => by
    induction vs with
    | nil => intro us; simp
    | cons v vs ih =>
      intro us
      rw [wipeT_cons]
      by_cases hv : v = i
      · subst hv
        by_cases hl : v < us.length
        · rw [List.getElem?_set_self (by rw [wipeT_length]; exact hl)]; simp [hl]
        · rw [List.getElem?_eq_none (by rw [List.length_set, wipeT_length]; omega)]; simp [hl]
      · rw [List.getElem?_set_ne hv, ih]
        have : ¬ i = v := fun e => hv e.symm
        simp [this]
  rw [key, key, wipeT_length]
  split <;> rfl
def scanD {α : Type} (f : α → D → Option D × α) : α → List D → List D × α
  | a, [] => ([], a)
  | a, d :: ds => match (f a d).1 with
    | some y => (y :: (scanD f (f a d).2 ds).1, (scanD f (f a d).2 ds).2)
    | none => scanD f (f a d).2 ds
theorem scanD_cons {α : Type} (f : α → D → Option D × α) (a d ds) : scanD f a (d :: ds) = match (f a d).1 with
    | some y => (y :: (scanD f (f a d).2 ds).1, (scanD f (f a d).2 ds).2)
    | none => scanD f (f a d).2 ds := rfl
theorem compR_scan {α : Type} {vs : List Nat} {put : D → List T → Option (List T)} {mc : M Bool} {me : M D} (enc : α → List T) (f : α → D → Option D × α) (I : α → Prop) :
    ∀ (ds : List D) (a : α) (ts : List T), I a → wipeT ts vs = enc a → (∀ a d, d ∈ ds → I a → (cTurn put mc me d (enc a)).wipe vs = .ok (f a d).1 (enc (f a d).2) ∧ I (f a d).2) →
      compR vs put mc me ds ts = .ok (scanD f a ds).1 (enc (scanD f a ds).2) ∧ I (scanD f a ds).2
  | [], a, ts, ha, e, _ => by rw [compR]; dsimp only; rw [e]; exact ⟨rfl, ha⟩
  | d :: ds, a, ts, ha, e, h => by
    obtain ⟨h0, h1⟩ := h a d List.mem_cons_self ha
    have rest := fun ts' e' => compR_scan enc f I ds (f a d).2 ts' h1 e' (fun a' d' hd => h a' d' (List.mem_cons_of_mem _ hd))
    rw [compR]; dsimp only; rw [e]
    unfold cTurn at h0
    cases q : put d (enc a) with
    | none => rw [q] at h0; cases h0
    | some ts1 =>
      simp only [q, putO_some] at h0 ⊢
      cases q1 : mc ts1 with
      | ok b ts2 =>
        simp only [q1, and_ok] at h0 ⊢
        by_cases hb : b = true
        · rw [if_pos hb] at h0
          rw [if_pos hb]
          cases q2 : me ts2 with
          | ok y ts3 =>
            simp only [q2, and_ok, wipe_ok] at h0 ⊢
            injection h0 with e1 e2
            obtain ⟨r1, r2⟩ := rest ts3 e2
            rw [r1]
            rw [scanD_cons, ← e1]
            exact ⟨rfl, r2⟩
          | ex c t => simp only [q2, and_ex] at h0; cases h0
          | bad => simp only [q2] at h0; cases h0
        · rw [if_neg hb] at h0
          rw [if_neg hb]
          simp only [wipe_ok] at h0
          injection h0 with e1 e2
          obtain ⟨r1, r2⟩ := rest ts2 e2
          rw [r1]
          rw [scanD_cons, ← e1]
          exact ⟨rfl, r2⟩
      | ex c t => simp only [q1, and_ex] at h0; cases h0
      | bad => simp only [q1] at h0; cases h0
/-- .. where the turns leave no trace -/
theorem compR_pure {vs : List Nat} {put : D → List T → Option (List T)} {mc : M Bool} {me : M D} {ts ts0 : List T} {ds : List D} (g : D → Option D) (e : wipeT ts vs = ts0)
    (h : ∀ d ∈ ds, (cTurn put mc me d ts0).wipe vs = .ok (g d) ts0) : compR vs put mc me ds ts = .ok (ds.filterMap g) ts0 := by
  have := (compR_scan (α := Unit) (put := put) (mc := mc) (me := me) (fun _ => ts0) (fun _ d => (g d, ())) (fun _ => True) ds () ts trivial e fun _ d hd _ => ⟨h d hd, trivial⟩).1
  rw [this]
  congr 1
  clear this h
  induction ds with
  | nil => rfl
  | cons d ds ih =>
    rw [scanD_cons]
    cases q : g d with
    | none => rw [List.filterMap_cons_none q, ← ih]
    | some y => rw [List.filterMap_cons_some q, ← ih]
theorem compR_filt {vs : List Nat} {put : D → List T → Option (List T)} {mc : M Bool} {me : M D} {ts ts0 : List T} {l : List Int} (P : Int → Bool) (e : wipeT ts vs = ts0)
    (h : ∀ x ∈ l, (cTurn put mc me (.int x) ts0).wipe vs = .ok (if P x = true then some (.int x) else none) ts0) : compR vs put mc me (nD l) ts = .ok (nD (l.filter P)) ts0 := by
  have k := compR_pure (ds := nD l) (fun d => match d with | .int x => if P x = true then some (.int x) else none | _ => none) e fun d hd => by
    unfold nD at hd
    obtain ⟨i, hi, rfl⟩ := List.mem_map.mp hd
    exact h i hi
  rw [k]
  congr 1
  clear h k
  induction l with
  | nil => rfl
  | cons x l ih =>
    rw [nD_cons]
    by_cases hx : P x = true
    · rw [List.filterMap_cons_some (b := .int x) (by dsimp only; rw [if_pos hx]), ih, List.filter_cons_of_pos hx, nD_cons]
    · rw [List.filterMap_cons_none (by dsimp only; rw [if_neg hx]), ih, List.filter_cons_of_neg hx]
theorem compR_map {vs : List Nat} {put : D → List T → Option (List T)} {mc : M Bool} {me : M D} {ts ts0 : List T} {α : Type} {l : List α} (i : α → D) (g : α → D) (e : wipeT ts vs = ts0)
    (h : ∀ x ∈ l, (cTurn put mc me (i x) ts0).wipe vs = .ok (some (g x)) ts0) : compR vs put mc me (l.map i) ts = .ok (l.map g) ts0 := by
  induction l generalizing ts with
  | nil => rw [List.map_nil, compR]; dsimp only; rw [e]; rfl
  | cons x l ih =>
    have k := compR_scan (α := Unit) (put := put) (mc := mc) (me := me) (vs := vs) (fun _ => ts0) (fun _ d => (some (g x), ())) (fun _ => True) [i x] () ts trivial e fun _ d hd _ => by
      rw [List.mem_singleton] at hd
      subst hd
      exact ⟨h x List.mem_cons_self, trivial⟩
    have k2 := h x List.mem_cons_self
    rw [List.map_cons, compR]; dsimp only; rw [e]
    unfold cTurn at k2
    cases q : put (i x) ts0 with
    | none => rw [q] at k2; cases k2
    | some ts1 =>
      simp only [q, putO_some] at k2 ⊢
      cases q1 : mc ts1 with
      | ok b ts2 =>
        simp only [q1, and_ok] at k2 ⊢
        by_cases hb : b = true
        · rw [if_pos hb] at k2
          rw [if_pos hb]
          cases q2 : me ts2 with
          | ok y ts3 =>
            simp only [q2, and_ok, wipe_ok] at k2 ⊢
            injection k2 with e1 e2
            rw [ih e2 fun z hz => h z (List.mem_cons_of_mem _ hz)]
            injection e1 with e1
            rw [e1]; rfl
          | ex c t => simp only [q2, and_ex] at k2; cases k2
          | bad => simp only [q2] at k2; cases k2
        · rw [if_neg hb] at k2; cases k2
      | ex c t => simp only [q1, and_ex] at k2; cases k2
      | bad => simp only [q1] at k2; cases k2
theorem compR_ints {α : Type} {vs : List Nat} {put : D → List T → Option (List T)} {mc : M Bool} {me : M D} (enc : α → List T) (f : α → Int × α) (P : Int → Prop) (I : α → Prop) :
    ∀ (ds : List D) (a : α) (ts : List T), I a → wipeT ts vs = enc a → (∀ a d, d ∈ ds → I a → (cTurn put mc me d (enc a)).wipe vs = .ok (some (.int (f a).1)) (enc (f a).2) ∧ I (f a).2 ∧ P (f a).1) →
      ∃ (l : List Int) (a' : α), compR vs put mc me ds ts = .ok (nD l) (enc a') ∧ l.length = ds.length ∧ (∀ x ∈ l, P x) ∧ I a' := fun ds a ts ha e h => by
  obtain ⟨k1, k2⟩ := compR_scan enc (fun a _ => (some (.int (f a).1), (f a).2)) I ds a ts ha e fun a d hd hI => ⟨(h a d hd hI).1, (h a d hd hI).2.1⟩
  have key : ∀ (ds' : List D) (a : α), (∀ d ∈ ds', d ∈ ds) → I a → ∃ l : List Int, (scanD (fun a (_ : D) => (some (D.int (f a).1), (f a).2)) a ds').1 = nD l ∧ l.length = ds'.length ∧ ∀ x ∈ l, P x := fun ds' => by
    induction ds' with
    | nil => intro a _ _; exact ⟨[], rfl, rfl, fun x hx => nomatch hx⟩
    | cons d ds' ih =>
      intro a hs hI
      obtain ⟨_, q1, q2⟩ := h a d (hs d List.mem_cons_self) hI
      obtain ⟨l, e1, e2, e3⟩ := ih (f a).2 (fun d hd => hs d (List.mem_cons_of_mem _ hd)) q1
      exact ⟨(f a).1 :: l, by rw [scanD_cons]; dsimp only; rw [e1, nD_cons], by rw [List.length_cons, List.length_cons, e2], fun x hx => by
        rcases List.mem_cons.mp hx with rfl | hx
        · exact q2
        · exact e3 x hx⟩
  obtain ⟨l, e1, e2, e3⟩ := key ds a (fun _ hd => hd) ha
  exact ⟨l, _, by rw [k1, e1], e2, e3, k2⟩
@[simp] theorem upto_length (a b) : (upto a b).length = (b - a).toNat := by unfold upto; simp
def putS (o : Option (List T)) (f : List T → RS) : RS := match o with
  | none => .bad
  | some ts1 => f ts1
@[simp] theorem putS_some (ts1) (f : List T → RS) : putS (some ts1) f = f ts1 := rfl
def RS.ct2 (r : RS) : RS := match r with
  | .ct ts => .nx ts
  | r => r
@[simp] theorem ct2_ct (ts) : RS.ct2 (.ct ts) = .nx ts := rfl
@[simp] theorem ct2_nx (ts) : RS.ct2 (.nx ts) = .nx ts := rfl
@[simp] theorem ct2_rt (t ts) : RS.ct2 (.rt t ts) = .rt t ts := rfl
@[simp] theorem ct2_bk (ts) : RS.ct2 (.bk ts) = .bk ts := rfl
@[simp] theorem ct2_ex (c ts) : RS.ct2 (.ex c ts) = .ex c ts := rfl
def lTurn (put : D → List T → Option (List T)) (body : S) (d : D) (ts : List T) : RS := putS (put d ts) fun ts1 => (body ts1).ct2
@[simp] theorem lTurn_ap (put body d ts) : lTurn put body d ts = putS (put d ts) fun ts1 => (body ts1).ct2 := rfl
@[simp] theorem loopS_nil (put body ts) : loopS put body [] ts = .nx ts := rfl
def RS.lp (r : RS) (n : S) : RS := match r with
  | .nx ts2 => n ts2
  | .bk ts2 => .nx ts2
  | .rt t ts2 => .rt t ts2
  | .ex c ts2 => .ex c ts2
  | _ => .bad
@[simp] theorem lp_nx (ts n) : RS.lp (.nx ts) n = n ts := rfl
@[simp] theorem lp_bk (ts n) : RS.lp (.bk ts) n = .nx ts := rfl
@[simp] theorem lp_rt (t ts n) : RS.lp (.rt t ts) n = .rt t ts := rfl
@[simp] theorem lp_ex (t ts n) : RS.lp (.ex t ts) n = .ex t ts := rfl
theorem loopS_cons (put body d ds ts) : loopS put body (d :: ds) ts = (lTurn put body d ts).lp (loopS put body ds) := by
  show (match put d ts with | none => RS.bad | some ts1 => match body ts1 with
      | .nx ts2 => loopS put body ds ts2
      | .ct ts2 => loopS put body ds ts2
      | .bk ts2 => .nx ts2
      | .rt t ts2 => .rt t ts2
      | .ex c ts2 => .ex c ts2
      | .bad => .bad) = (putS (put d ts) fun ts1 => (body ts1).ct2).lp _
  cases q0 : put d ts with
  | none => rfl
  | some ts1 =>
    show _ = ((body ts1).ct2).lp _
    cases q : body ts1 <;> simp only [q] <;> rfl
/-- a loop that goes through -/
theorem loopS_fold {α β : Type} {put : D → List T → Option (List T)} {body : S} (enc : β → α → List T) (f : α → D → α) (I : α → Prop) :
    ∀ (ds : List D) (b : β) (a : α), I a → (∀ b a d, d ∈ ds → I a → (∃ b', lTurn put body d (enc b a) = .nx (enc b' (f a d))) ∧ I (f a d)) →
      (∃ b', loopS put body ds (enc b a) = .nx (enc b' (ds.foldl f a))) ∧ I (ds.foldl f a)
  | [], b, a, ha, _ => ⟨⟨b, rfl⟩, ha⟩
  | d :: ds, b, a, ha, h => by
    obtain ⟨⟨b1, e1⟩, h1⟩ := h b a d List.mem_cons_self ha
    obtain ⟨⟨b2, e2⟩, h2⟩ := loopS_fold enc f I ds b1 (f a d) h1 fun b' a' d' hd => h b' a' d' (List.mem_cons_of_mem _ hd)
    refine ⟨⟨b2, ?_⟩, h2⟩
    rw [loopS_cons, e1, lp_nx, e2]
    rfl

/-! for over an owned list, append, pop -/
def foT (j : Nat) (body : S) (ts : List T) : Option T → S
  | some (.l us) => loopOwn j body us
  | _ => fun _ => .bad
@[simp] theorem foT_l (j body ts us) : foT j body ts (some (.l us)) = loopOwn j body us := rfl
@[simp] theorem forOwn_ap (i j body ts) : forOwn i j body ts = foT j body ts ts[i]? (ts.set i .gone) := by
  unfold forOwn foT
  cases ts[i]? with
  | none => rfl
  | some t => cases t <;> rfl
@[simp] theorem loopOwn_nil (j body ts) : loopOwn j body [] ts = .nx ts := rfl
theorem loopOwn_cons (j body u us ts) : loopOwn j body (u :: us) ts = if j < ts.length then ((body (ts.set j u)).ct2).lp (loopOwn j body us) else .bad := by
  show (if j < ts.length then (match body (ts.set j u) with
      | .nx ts2 => loopOwn j body us ts2
      | .ct ts2 => loopOwn j body us ts2
      | .bk ts2 => .nx ts2
      | .rt t ts2 => .rt t ts2
      | .ex c ts2 => .ex c ts2
      | .bad => .bad) else RS.bad) = _
  cases q : body (ts.set j u) <;> rfl
def isLO : Option T → Bool
  | some (.l _) => true
  | _ => false
@[simp] theorem isLO_l (x) : isLO (some (.l x)) = true := rfl
def apT (i : Nat) (t : T) (ts : List T) : Option T → R T
  | some (.l xs) => if xs.length < lim then .ok (.z .non) (ts.set i (.l (xs ++ [t]))) else .bad
  | _ => .bad
@[simp] theorem apT_l (i t ts xs) : apT i t ts (some (.l xs)) = if xs.length < lim then .ok (.z .non) (ts.set i (.l (xs ++ [t]))) else .bad := rfl
@[simp] theorem appM_ap (i m ts) : appM i m ts = if isLO ts[i]? = true then (m ts).and fun t ts1 => apT i t ts1 ts1[i]? else .bad := by
  unfold appM
  have e1 : isL i ts = isLO ts[i]? := by
    unfold isL isLO
    cases ts[i]? with
    | none => rfl
    | some t => cases t <;> rfl
  rw [e1]
  split
  · rw [bind_ap]
    congr 1
  · rfl
end Ar
/-! ArR: isinstance, equality of data, draws. -/
namespace Ar
open PySem PySem.Spec PyProof.Rows L2
theorem kb_non_bool : kitB "NoneType" "bool" = some false := by decide +kernel
@[simp] theorem isi_non_bool  : isi "bool" (.non) = some (.z (.bl false)) := by show (match kitB "NoneType" "bool" with | some b => some (T.z (.bl b)) | none => none) = _; rw [kb_non_bool]
theorem kb_non_int : kitB "NoneType" "int" = some false := by decide +kernel
@[simp] theorem isi_non_int  : isi "int" (.non) = some (.z (.bl false)) := by show (match kitB "NoneType" "int" with | some b => some (T.z (.bl b)) | none => none) = _; rw [kb_non_int]
theorem kb_non_str : kitB "NoneType" "str" = some false := by decide +kernel
@[simp] theorem isi_non_str  : isi "str" (.non) = some (.z (.bl false)) := by show (match kitB "NoneType" "str" with | some b => some (T.z (.bl b)) | none => none) = _; rw [kb_non_str]
theorem kb_non_list : kitB "NoneType" "list" = some false := by decide +kernel
@[simp] theorem isi_non_list  : isi "list" (.non) = some (.z (.bl false)) := by show (match kitB "NoneType" "list" with | some b => some (T.z (.bl b)) | none => none) = _; rw [kb_non_list]
theorem kb_non_tuple : kitB "NoneType" "tuple" = some false := by decide +kernel
@[simp] theorem isi_non_tuple  : isi "tuple" (.non) = some (.z (.bl false)) := by show (match kitB "NoneType" "tuple" with | some b => some (T.z (.bl b)) | none => none) = _; rw [kb_non_tuple]
theorem kb_non_dict : kitB "NoneType" "dict" = some false := by decide +kernel
@[simp] theorem isi_non_dict  : isi "dict" (.non) = some (.z (.bl false)) := by show (match kitB "NoneType" "dict" with | some b => some (T.z (.bl b)) | none => none) = _; rw [kb_non_dict]
@[simp] theorem isi2_non_list_tuple  : isi2 "list" "tuple" (.non) = some (.z (.bl false)) := by show (match kitB "NoneType" "list", kitB "NoneType" "tuple" with | some b, some c => some (T.z (.bl (b || c))) | _, _ => none) = _; rw [kb_non_list, kb_non_tuple]; rfl
theorem kb_bl_bool : kitB "bool" "bool" = some true := by decide +kernel
@[simp] theorem isi_bl_bool (b) : isi "bool" (.bl b) = some (.z (.bl true)) := by show (match kitB "bool" "bool" with | some b => some (T.z (.bl b)) | none => none) = _; rw [kb_bl_bool]
theorem kb_bl_int : kitB "bool" "int" = some true := by decide +kernel
@[simp] theorem isi_bl_int (b) : isi "int" (.bl b) = some (.z (.bl true)) := by show (match kitB "bool" "int" with | some b => some (T.z (.bl b)) | none => none) = _; rw [kb_bl_int]
theorem kb_bl_str : kitB "bool" "str" = some false := by decide +kernel
@[simp] theorem isi_bl_str (b) : isi "str" (.bl b) = some (.z (.bl false)) := by show (match kitB "bool" "str" with | some b => some (T.z (.bl b)) | none => none) = _; rw [kb_bl_str]
theorem kb_bl_list : kitB "bool" "list" = some false := by decide +kernel
@[simp] theorem isi_bl_list (b) : isi "list" (.bl b) = some (.z (.bl false)) := by show (match kitB "bool" "list" with | some b => some (T.z (.bl b)) | none => none) = _; rw [kb_bl_list]
theorem kb_bl_tuple : kitB "bool" "tuple" = some false := by decide +kernel
@[simp] theorem isi_bl_tuple (b) : isi "tuple" (.bl b) = some (.z (.bl false)) := by show (match kitB "bool" "tuple" with | some b => some (T.z (.bl b)) | none => none) = _; rw [kb_bl_tuple]
theorem kb_bl_dict : kitB "bool" "dict" = some false := by decide +kernel
@[simp] theorem isi_bl_dict (b) : isi "dict" (.bl b) = some (.z (.bl false)) := by show (match kitB "bool" "dict" with | some b => some (T.z (.bl b)) | none => none) = _; rw [kb_bl_dict]
@[simp] theorem isi2_bl_list_tuple (b) : isi2 "list" "tuple" (.bl b) = some (.z (.bl false)) := by show (match kitB "bool" "list", kitB "bool" "tuple" with | some b, some c => some (T.z (.bl (b || c))) | _, _ => none) = _; rw [kb_bl_list, kb_bl_tuple]; rfl
theorem kb_int_bool : kitB "int" "bool" = some false := by decide +kernel
@[simp] theorem isi_int_bool (b) : isi "bool" (.int b) = some (.z (.bl false)) := by show (match kitB "int" "bool" with | some b => some (T.z (.bl b)) | none => none) = _; rw [kb_int_bool]
theorem kb_int_int : kitB "int" "int" = some true := by decide +kernel
@[simp] theorem isi_int_int (b) : isi "int" (.int b) = some (.z (.bl true)) := by show (match kitB "int" "int" with | some b => some (T.z (.bl b)) | none => none) = _; rw [kb_int_int]
theorem kb_int_str : kitB "int" "str" = some false := by decide +kernel
@[simp] theorem isi_int_str (b) : isi "str" (.int b) = some (.z (.bl false)) := by show (match kitB "int" "str" with | some b => some (T.z (.bl b)) | none => none) = _; rw [kb_int_str]
theorem kb_int_list : kitB "int" "list" = some false := by decide +kernel
@[simp] theorem isi_int_list (b) : isi "list" (.int b) = some (.z (.bl false)) := by show (match kitB "int" "list" with | some b => some (T.z (.bl b)) | none => none) = _; rw [kb_int_list]
theorem kb_int_tuple : kitB "int" "tuple" = some false := by decide +kernel
@[simp] theorem isi_int_tuple (b) : isi "tuple" (.int b) = some (.z (.bl false)) := by show (match kitB "int" "tuple" with | some b => some (T.z (.bl b)) | none => none) = _; rw [kb_int_tuple]
theorem kb_int_dict : kitB "int" "dict" = some false := by decide +kernel
@[simp] theorem isi_int_dict (b) : isi "dict" (.int b) = some (.z (.bl false)) := by show (match kitB "int" "dict" with | some b => some (T.z (.bl b)) | none => none) = _; rw [kb_int_dict]
@[simp] theorem isi2_int_list_tuple (b) : isi2 "list" "tuple" (.int b) = some (.z (.bl false)) := by show (match kitB "int" "list", kitB "int" "tuple" with | some b, some c => some (T.z (.bl (b || c))) | _, _ => none) = _; rw [kb_int_list, kb_int_tuple]; rfl
theorem kb_str_bool : kitB "str" "bool" = some false := by decide +kernel
@[simp] theorem isi_str_bool (b) : isi "bool" (.str b) = some (.z (.bl false)) := by show (match kitB "str" "bool" with | some b => some (T.z (.bl b)) | none => none) = _; rw [kb_str_bool]
theorem kb_str_int : kitB "str" "int" = some false := by decide +kernel
@[simp] theorem isi_str_int (b) : isi "int" (.str b) = some (.z (.bl false)) := by show (match kitB "str" "int" with | some b => some (T.z (.bl b)) | none => none) = _; rw [kb_str_int]
theorem kb_str_str : kitB "str" "str" = some true := by decide +kernel
@[simp] theorem isi_str_str (b) : isi "str" (.str b) = some (.z (.bl true)) := by show (match kitB "str" "str" with | some b => some (T.z (.bl b)) | none => none) = _; rw [kb_str_str]
theorem kb_str_list : kitB "str" "list" = some false := by decide +kernel
@[simp] theorem isi_str_list (b) : isi "list" (.str b) = some (.z (.bl false)) := by show (match kitB "str" "list" with | some b => some (T.z (.bl b)) | none => none) = _; rw [kb_str_list]
theorem kb_str_tuple : kitB "str" "tuple" = some false := by decide +kernel
@[simp] theorem isi_str_tuple (b) : isi "tuple" (.str b) = some (.z (.bl false)) := by show (match kitB "str" "tuple" with | some b => some (T.z (.bl b)) | none => none) = _; rw [kb_str_tuple]
theorem kb_str_dict : kitB "str" "dict" = some false := by decide +kernel
@[simp] theorem isi_str_dict (b) : isi "dict" (.str b) = some (.z (.bl false)) := by show (match kitB "str" "dict" with | some b => some (T.z (.bl b)) | none => none) = _; rw [kb_str_dict]
@[simp] theorem isi2_str_list_tuple (b) : isi2 "list" "tuple" (.str b) = some (.z (.bl false)) := by show (match kitB "str" "list", kitB "str" "tuple" with | some b, some c => some (T.z (.bl (b || c))) | _, _ => none) = _; rw [kb_str_list, kb_str_tuple]; rfl
theorem kb_lst_bool : kitB "list" "bool" = some false := by decide +kernel
@[simp] theorem isi_lst_bool (b) : isi "bool" (.lst b) = some (.z (.bl false)) := by show (match kitB "list" "bool" with | some b => some (T.z (.bl b)) | none => none) = _; rw [kb_lst_bool]
theorem kb_lst_int : kitB "list" "int" = some false := by decide +kernel
@[simp] theorem isi_lst_int (b) : isi "int" (.lst b) = some (.z (.bl false)) := by show (match kitB "list" "int" with | some b => some (T.z (.bl b)) | none => none) = _; rw [kb_lst_int]
theorem kb_lst_str : kitB "list" "str" = some false := by decide +kernel
@[simp] theorem isi_lst_str (b) : isi "str" (.lst b) = some (.z (.bl false)) := by show (match kitB "list" "str" with | some b => some (T.z (.bl b)) | none => none) = _; rw [kb_lst_str]
theorem kb_lst_list : kitB "list" "list" = some true := by decide +kernel
@[simp] theorem isi_lst_list (b) : isi "list" (.lst b) = some (.z (.bl true)) := by show (match kitB "list" "list" with | some b => some (T.z (.bl b)) | none => none) = _; rw [kb_lst_list]
theorem kb_lst_tuple : kitB "list" "tuple" = some false := by decide +kernel
@[simp] theorem isi_lst_tuple (b) : isi "tuple" (.lst b) = some (.z (.bl false)) := by show (match kitB "list" "tuple" with | some b => some (T.z (.bl b)) | none => none) = _; rw [kb_lst_tuple]
theorem kb_lst_dict : kitB "list" "dict" = some false := by decide +kernel
@[simp] theorem isi_lst_dict (b) : isi "dict" (.lst b) = some (.z (.bl false)) := by show (match kitB "list" "dict" with | some b => some (T.z (.bl b)) | none => none) = _; rw [kb_lst_dict]
@[simp] theorem isi2_lst_list_tuple (b) : isi2 "list" "tuple" (.lst b) = some (.z (.bl true)) := by show (match kitB "list" "list", kitB "list" "tuple" with | some b, some c => some (T.z (.bl (b || c))) | _, _ => none) = _; rw [kb_lst_list, kb_lst_tuple]; rfl
theorem kb_tup_bool : kitB "tuple" "bool" = some false := by decide +kernel
@[simp] theorem isi_tup_bool (b) : isi "bool" (.tup b) = some (.z (.bl false)) := by show (match kitB "tuple" "bool" with | some b => some (T.z (.bl b)) | none => none) = _; rw [kb_tup_bool]
theorem kb_tup_int : kitB "tuple" "int" = some false := by decide +kernel
@[simp] theorem isi_tup_int (b) : isi "int" (.tup b) = some (.z (.bl false)) := by show (match kitB "tuple" "int" with | some b => some (T.z (.bl b)) | none => none) = _; rw [kb_tup_int]
theorem kb_tup_str : kitB "tuple" "str" = some false := by decide +kernel
@[simp] theorem isi_tup_str (b) : isi "str" (.tup b) = some (.z (.bl false)) := by show (match kitB "tuple" "str" with | some b => some (T.z (.bl b)) | none => none) = _; rw [kb_tup_str]
theorem kb_tup_list : kitB "tuple" "list" = some false := by decide +kernel
@[simp] theorem isi_tup_list (b) : isi "list" (.tup b) = some (.z (.bl false)) := by show (match kitB "tuple" "list" with | some b => some (T.z (.bl b)) | none => none) = _; rw [kb_tup_list]
theorem kb_tup_tuple : kitB "tuple" "tuple" = some true := by decide +kernel
@[simp] theorem isi_tup_tuple (b) : isi "tuple" (.tup b) = some (.z (.bl true)) := by show (match kitB "tuple" "tuple" with | some b => some (T.z (.bl b)) | none => none) = _; rw [kb_tup_tuple]
theorem kb_tup_dict : kitB "tuple" "dict" = some false := by decide +kernel
@[simp] theorem isi_tup_dict (b) : isi "dict" (.tup b) = some (.z (.bl false)) := by show (match kitB "tuple" "dict" with | some b => some (T.z (.bl b)) | none => none) = _; rw [kb_tup_dict]
@[simp] theorem isi2_tup_list_tuple (b) : isi2 "list" "tuple" (.tup b) = some (.z (.bl true)) := by show (match kitB "tuple" "list", kitB "tuple" "tuple" with | some b, some c => some (T.z (.bl (b || c))) | _, _ => none) = _; rw [kb_tup_list, kb_tup_tuple]; rfl
theorem kb_dk_bool : kitB "dict" "bool" = some false := by decide +kernel
@[simp] theorem isi_dk_bool (b) : isi "bool" (.dk b) = some (.z (.bl false)) := by show (match kitB "dict" "bool" with | some b => some (T.z (.bl b)) | none => none) = _; rw [kb_dk_bool]
theorem kb_dk_int : kitB "dict" "int" = some false := by decide +kernel
@[simp] theorem isi_dk_int (b) : isi "int" (.dk b) = some (.z (.bl false)) := by show (match kitB "dict" "int" with | some b => some (T.z (.bl b)) | none => none) = _; rw [kb_dk_int]
theorem kb_dk_str : kitB "dict" "str" = some false := by decide +kernel
@[simp] theorem isi_dk_str (b) : isi "str" (.dk b) = some (.z (.bl false)) := by show (match kitB "dict" "str" with | some b => some (T.z (.bl b)) | none => none) = _; rw [kb_dk_str]
theorem kb_dk_list : kitB "dict" "list" = some false := by decide +kernel
@[simp] theorem isi_dk_list (b) : isi "list" (.dk b) = some (.z (.bl false)) := by show (match kitB "dict" "list" with | some b => some (T.z (.bl b)) | none => none) = _; rw [kb_dk_list]
theorem kb_dk_tuple : kitB "dict" "tuple" = some false := by decide +kernel
@[simp] theorem isi_dk_tuple (b) : isi "tuple" (.dk b) = some (.z (.bl false)) := by show (match kitB "dict" "tuple" with | some b => some (T.z (.bl b)) | none => none) = _; rw [kb_dk_tuple]
theorem kb_dk_dict : kitB "dict" "dict" = some true := by decide +kernel
@[simp] theorem isi_dk_dict (b) : isi "dict" (.dk b) = some (.z (.bl true)) := by show (match kitB "dict" "dict" with | some b => some (T.z (.bl b)) | none => none) = _; rw [kb_dk_dict]
@[simp] theorem isi2_dk_list_tuple (b) : isi2 "list" "tuple" (.dk b) = some (.z (.bl false)) := by show (match kitB "dict" "list", kitB "dict" "tuple" with | some b, some c => some (T.z (.bl (b || c))) | _, _ => none) = _; rw [kb_dk_list, kb_dk_tuple]; rfl
/-! equality -/
mutual
def okd : Nat → D → Bool
  | _, .non => true
  | _, .bl _ => true
  | _, .int _ => true
  | _, .str s => PyData.strOk s
  | k + 1, .lst l => okds k l
  | k + 1, .tup l => okds k l
  | _, _ => false
def okds : Nat → List D → Bool
  | _, [] => true
  | k, d :: ds => okd k d && okds k ds
end
theorem okds_iff {k : Nat} : ∀ {l : List D}, okds k l = true ↔ ∀ d ∈ l, okd k d = true
  | [] => by simp [okds]
  | d :: ds => by rw [okds, Bool.and_eq_true, okds_iff (l := ds)]; simp
mutual
theorem okd_py : ∀ {k : Nat} {d : D}, okd k d = true → ∃ p, D.py d = some p ∧ p.canLay0 = true ∧ p.depth ≤ k
  | k, .non, _ => ⟨_, rfl, rfl, Nat.zero_le _⟩
  | k, .bl _, _ => ⟨_, rfl, rfl, Nat.zero_le _⟩
  | k, .int _, _ => ⟨_, rfl, rfl, Nat.zero_le _⟩
  | k, .str s, h => ⟨.str s, rfl, by rw [okd] at h; rw [PyData.canLay0]; exact h, Nat.zero_le _⟩
  | k + 1, .lst l, h => by
    rw [okd] at h
    obtain ⟨ps, e, c, dd⟩ := okds_py h
    exact ⟨.list ps, by rw [D.py, e], by rw [PyData.canLay0]; exact c, by rw [PyData.depth]; omega⟩
  | k + 1, .tup l, h => by
    rw [okd] at h
    obtain ⟨ps, e, c, dd⟩ := okds_py h
    exact ⟨.tuple ps, by rw [D.py, e], by rw [PyData.canLay0]; exact c, by rw [PyData.depth]; omega⟩
  | 0, .lst _, h => by rw [okd] at h <;> first | cases h | (intros; simp_all)
  | 0, .tup _, h => by rw [okd] at h <;> first | cases h | (intros; simp_all)
  | k, .dk _, h => by cases k <;> (rw [okd] at h <;> first | cases h | (intros; simp_all))
  | k, .dt _, h => by cases k <;> (rw [okd] at h <;> first | cases h | (intros; simp_all))
  | k, .st _, h => by cases k <;> (rw [okd] at h <;> first | cases h | (intros; simp_all))
  | k, .scr _, h => by cases k <;> (rw [okd] at h <;> first | cases h | (intros; simp_all))
  | k, .fn _, h => by cases k <;> (rw [okd] at h <;> first | cases h | (intros; simp_all))
theorem okds_py : ∀ {k : Nat} {l : List D}, okds k l = true → ∃ p, D.pys l = some p ∧ PyData.canLayAll0 p = true ∧ PyData.depthAll p ≤ k
  | k, [], _ => ⟨[], rfl, rfl, Nat.zero_le _⟩
  | k, d :: ds, h => by
    rw [okds, Bool.and_eq_true] at h
    obtain ⟨p, e, c, dd⟩ := okd_py h.1
    obtain ⟨ps, e', c', dd'⟩ := okds_py h.2
    exact ⟨p :: ps, by rw [D.pys, e, e'], by rw [PyData.canLayAll0, c, c']; rfl, by rw [PyData.depthAll]; omega⟩
end
theorem okq_of {k : Nat} {d : D} (h : okd k d = true) (hk : k ≤ 64) : okq d = true := by
  obtain ⟨p, e, c, dd⟩ := okd_py h
  unfold okq
  rw [e]
  show (p.canLay0 && decide (p.depth ≤ 64)) = true
  rw [c, Bool.true_and]
  exact decide_eq_true (by omega)
mutual
theorem eqv_refl : ∀ p : PyData, p.canLay0 = true → PyData.eqv p p = true
  | .none, _ => by rw [PyData.eqv]
  | .bool b, _ => by rw [PyData.eqv]; simp
  | .int b, _ => by rw [PyData.eqv]; simp
  | .str b, _ => by rw [PyData.eqv]; simp
  | .list b, h => by rw [PyData.eqv]; exact eqvAll_refl b (by rw [PyData.canLay0] at h; exact h)
  | .tuple b, h => by rw [PyData.eqv]; exact eqvAll_refl b (by rw [PyData.canLay0] at h; exact h)
  | .dict b, h => by rw [PyData.canLay0] at h; cases h
theorem eqvAll_refl : ∀ p : List PyData, PyData.canLayAll0 p = true → PyData.eqvAll p p = true
  | [], _ => by rw [PyData.eqvAll]
  | p :: ps, h => by
    rw [PyData.canLayAll0, Bool.and_eq_true] at h
    rw [PyData.eqvAll, eqv_refl p h.1, eqvAll_refl ps h.2]; rfl
end
theorem eqd_refl {k : Nat} {d : D} (h : okd k d = true) : eqd d d = true := by
  obtain ⟨p, e, c, dd⟩ := okd_py h
  unfold eqd pyD
  rw [e]
  exact eqv_refl p c
theorem oEq_refl {k : Nat} {d : D} (h : okd k d = true) (hk : k ≤ 64) : oEq d d = some (.z (.bl true)) := by
  unfold oEq
  rw [if_pos ⟨okq_of h hk, okq_of h hk⟩, eqd_refl h]
theorem oNe_refl {k : Nat} {d : D} (h : okd k d = true) (hk : k ≤ 64) : oNe d d = some (.z (.bl false)) := by
  unfold oNe
  rw [if_pos ⟨okq_of h hk, okq_of h hk⟩, eqd_refl h]; rfl
theorem okq_int (i) : okq (.int i) = true := okq_of (k := 0) rfl (by omega)
theorem okq_bl (i) : okq (.bl i) = true := okq_of (k := 0) rfl (by omega)
theorem beq_int (i j : Int) : (i == j) = decide (i = j) := by by_cases h : i = j <;> simp [h]
@[simp] theorem oEq_int (i j) : oEq (.int i) (.int j) = some (.z (.bl (decide (i = j)))) := by
  unfold oEq
  rw [if_pos ⟨okq_int i, okq_int j⟩]
  show some (T.z (.bl (PyData.eqv (.int i) (.int j)))) = _
  rw [PyData.eqv, beq_int]
@[simp] theorem oNe_int (i j) : oNe (.int i) (.int j) = some (.z (.bl (!decide (i = j)))) := by
  unfold oNe
  rw [if_pos ⟨okq_int i, okq_int j⟩]
  show some (T.z (.bl (!PyData.eqv (.int i) (.int j)))) = _
  rw [PyData.eqv, beq_int]
@[simp] theorem oEq_bl (i j) : oEq (.bl i) (.bl j) = some (.z (.bl (i == j))) := by
  unfold oEq
  rw [if_pos ⟨okq_bl i, okq_bl j⟩]
  show some (T.z (.bl (PyData.eqv (.bool i) (.bool j)))) = _
  rw [PyData.eqv]
@[simp] theorem oNe_bl (i j) : oNe (.bl i) (.bl j) = some (.z (.bl (!(i == j)))) := by
  unfold oNe
  rw [if_pos ⟨okq_bl i, okq_bl j⟩]
  show some (T.z (.bl (!PyData.eqv (.bool i) (.bool j)))) = _
  rw [PyData.eqv]
@[simp] theorem okd_nD (k l) : okds k (nD l) = true := by
  rw [okds_iff]
  intro d hd
  unfold nD at hd
  obtain ⟨i, _, rfl⟩ := List.mem_map.mp hd
  cases k <;> rfl
@[simp] theorem okd_int (k i) : okd k (.int i) = true := by cases k <;> rfl
@[simp] theorem okd_bl (k i) : okd k (.bl i) = true := by cases k <;> rfl
@[simp] theorem okd_non (k) : okd k .non = true := by cases k <;> rfl
@[simp] theorem okd_lst (k l) : okd (k + 1) (.lst l) = okds k l := rfl
@[simp] theorem okd_tup (k l) : okd (k + 1) (.tup l) = okds k l := rfl
@[simp] theorem okds_nil (k) : okds k [] = true := rfl
@[simp] theorem okds_cons (k d ds) : okds k (d :: ds) = (okd k d && okds k ds) := rfl
/-! `in` over a list of numbers -/
theorem flat_nD (l : List Int) : (nD l).all flatD = true := by
  rw [List.all_eq_true]
  intro d hd
  unfold nD at hd
  obtain ⟨i, _, rfl⟩ := List.mem_map.mp hd
  rfl
theorem any_nD (l : List Int) (i : Int) : ((nD l).any fun z => eqf z (.int i)) = decide (i ∈ l) := by
  induction l with
  | nil => rfl
  | cons a l ih =>
    show (eqf (.int a) (.int i) || (nD l).any fun z => eqf z (.int i)) = _
    rw [ih]
    show ((a == i) || decide (i ∈ l)) = _
    rw [beq_int]
    by_cases h : a = i
    · subst h; simp
    · have : ¬ i = a := fun e => h e.symm
      simp [h, this]
@[simp] theorem oIn_nD (i l) : oIn (.int i) (.lst (nD l)) = some (.z (.bl (decide (i ∈ l)))) := by
  unfold oIn inD
  dsimp only
  rw [if_pos ⟨rfl, flat_nD l⟩, any_nD]
@[simp] theorem oIn_nDt (i l) : oIn (.int i) (.tup (nD l)) = some (.z (.bl (decide (i ∈ l)))) := by
  unfold oIn inD
  dsimp only
  rw [if_pos ⟨rfl, flat_nD l⟩, any_nD]
@[simp] theorem oNotIn_nDt (i l) : oNotIn (.int i) (.tup (nD l)) = some (.z (.bl (!decide (i ∈ l)))) := by
  unfold oNotIn inD
  dsimp only
  rw [if_pos ⟨rfl, flat_nD l⟩, any_nD]
@[simp] theorem oNotIn_nD (i l) : oNotIn (.int i) (.lst (nD l)) = some (.z (.bl (!decide (i ∈ l)))) := by
  unfold oNotIn inD
  dsimp only
  rw [if_pos ⟨rfl, flat_nD l⟩, any_nD]
/-! draws -/
structure Dr where
  cells : List Int
  at_ : Nat
  got : Int
  seed : Int
def drL (d : Dr) : List T := [.l (nT d.cells), .z (.int d.at_), .z (.int d.got), .z (.int d.seed)]
def Dr.step (d : Dr) (m : Int) : Dr :=
  if d.got < m ∧ d.at_ < d.cells.length then
    let c := d.cells.getD d.at_ 0
    if (1000000000000000000 : Int) ≤ (if c < 0 then -c else c) then ⟨d.cells, d.at_ + 1, (if c < 0 then -c else c), d.seed⟩
    else ⟨d.cells, d.at_ + 1, 0, (d.seed * 48271 + c % 2147483629 * 69621 + 12345) % 2147483647⟩
  else d
def Dr.take (d : Dr) (m : Int) : Int × Dr :=
  let e := d.step m
  if m ≤ e.got then (e.got % m, ⟨e.cells, e.at_, e.got / m, e.seed⟩)
  else (((e.seed * 16807 + 2531011) % 2147483647) / 64 % m, ⟨e.cells, e.at_, e.got, (e.seed * 16807 + 2531011) % 2147483647⟩)
theorem take_lo (d : Dr) {m : Int} (h : 0 < m) : 0 ≤ (d.take m).1 := by
  unfold Dr.take
  dsimp only
  split
  · exact Int.emod_nonneg _ (by omega)
  · exact Int.emod_nonneg _ (by omega)
theorem take_hi (d : Dr) {m : Int} (h : 0 < m) : (d.take m).1 < m := by
  unfold Dr.take
  dsimp only
  split
  · exact Int.emod_lt_of_pos _ h
  · exact Int.emod_lt_of_pos _ h
theorem big62_of {i : Int} (h1 : 0 ≤ i) (h2 : i < 1000000) : big62 i := ⟨by omega, by omega⟩
theorem at3 {α : Type} (a b c : α) {r : Int} (h0 : 0 ≤ r) (h1 : r < 3) : atI [a, b, c] r = some a ∨ atI [a, b, c] r = some b ∨ atI [a, b, c] r = some c := by
  have : r = 0 ∨ r = 1 ∨ r = 2 := by omega
  rcases this with rfl | rfl | rfl <;> simp
theorem small_48271 : small 48271 := by decide
theorem small_69621 : small 69621 := by decide
theorem small_16807 : small 16807 := by decide
theorem small_2 : small 2 := by decide
theorem small_e18 : small 1000000000000000000 := by decide
theorem small_10 : small 10 := by decide
theorem bigN_64 : (64 : Int).natAbs < bigN := by decide +kernel
@[simp] theorem lt_bigN {n : Nat} (h : n < 1000000000000000000000000000000) : n < bigN := by
  have : (1000000000000000000000000000000 : Nat) < bigN := by decide +kernel
  omega
theorem natAbs_big {m : Int} (h1 : 0 < m) (h2 : m < 1000000000000000000000000000000) : m.natAbs < bigN := by
  have : (1000000000000000000000000000000 : Int).natAbs < bigN := by decide +kernel
  omega
def beginD (ns : List Int) : Dr := ⟨ns.take 63, 0, 0, 17⟩
def okm : Nat → D → Bool
  | _, .non => true
  | _, .bl _ => true
  | _, .int _ => true
  | _, .str s => PyData.strOk s
  | k + 1, .lst l => decide (l.length ≤ 1000000) && l.all (okm k)
  | k + 1, .tup l => decide (l.length ≤ 1000000) && l.all (okm k)
  | _, _ => false
theorem zipD_self (l : List D) : zipD l l = l.map fun d => D.tup [d, d] := by
  induction l with
  | nil => rfl
  | cons a l ih => rw [zipD, ih]; rfl
theorem blsD_rep (n : Nat) : blsD (List.replicate n (.bl true)) = some (List.replicate n true) := by
  induction n with
  | zero => rfl
  | succ n ih => rw [List.replicate_succ, blsD, ih]; rfl
theorem oAll_rep (n : Nat) : oAll (.lst (List.replicate n (.bl true))) = some (.z (.bl true)) := by
  show (match blsD (List.replicate n (.bl true)) with | some ns => some (T.z (.bl (ns.all id))) | none => none) = _
  rw [blsD_rep]
  simp
@[simp] theorem fzs_rep (n : Nat) (d : D) : T.fzs (List.replicate n (T.z d)) = some (List.replicate n d) := by
  have : List.replicate n (T.z d) = (List.replicate n d).map T.z := by simp
  rw [this, fzs_z]
@[simp] theorem okm_nD (k : Nat) (l : List Int) : (nD l).all (okm k) = true := by
  rw [List.all_eq_true]
  intro d hd
  unfold nD at hd
  obtain ⟨i, _, rfl⟩ := List.mem_map.mp hd
  cases k <;> rfl
@[simp] theorem okm_int (k i) : okm k (.int i) = true := by cases k <;> rfl
@[simp] theorem okm_bl (k i) : okm k (.bl i) = true := by cases k <;> rfl
@[simp] theorem okm_non (k) : okm k .non = true := by cases k <;> rfl
@[simp] theorem okm_lst (k l) : okm (k + 1) (.lst l) = (decide (l.length ≤ 1000000) && l.all (okm k)) := rfl
@[simp] theorem okm_tup (k l) : okm (k + 1) (.tup l) = (decide (l.length ≤ 1000000) && l.all (okm k)) := rfl
end Ar
/-! ArT: more rules: what is not reached, chained comparisons, list of a range, backwards slices, clear, extend, constants of the module. -/
namespace Ar
open PySem PySem.Spec PyProof.Rows L2
section
variable {X : Cx} {W : WX} {bs : List Nat} {st : Stmt} {e a b c : Expr} {pos p : Pos}
/-- a statement, an expression that is not reached -/
def badS : S := fun _ => .bad
theorem ps_badS : PS X st (tS (gx X) W bs badS) := ⟨fun pins s σ H D I ⟨F, Mm, G, ts, sa, k⟩ => k.elim⟩
theorem pss_badS {ss : List Stmt} : PSs X ss (tS (gx X) W bs badS) := ⟨fun pins s σ H D I ⟨F, Mm, G, ts, sa, k⟩ => k.elim⟩
theorem e_bad : PE X e (tD (gx X) W stop) := ⟨fun pins s σ H Q I ⟨F, Mm, G, ts, sa, k⟩ => k.elim⟩
@[simp] theorem badS_ap (ts) : badS ts = .bad := rfl
/-! a op b op c -/
def chM (f g : D → D → Option T) (ma mb mc : M D) : M T := ma >>= fun x => mb >>= fun y => opt (f x y) >>= fun t => asB t >>= fun k => if k = true then (mc >>= fun z => opt (g y z)) else M.ret (.z (.bl false))
def chB (f g : D → D → Option T) (ma mb mc : M D) : M Bool := chM f g ma mb mc >>= asB
theorem tChain_of {r r' : R2} {f f' : D → D → Option T} {ma mb mc : M D} (hs : Op2 (gx X) r f) (hs' : Op2 (gx X) r' f') : ∀ σ H Q, tD (gx X) W (chM f f' ma mb mc) σ H Q → tChain r r' (tZ (gx X) W ma) (tZ (gx X) W mb) (tV (gx X) W mc) σ H Q :=
  fun σ H Q ⟨F, Mm, G, ts, st, k⟩ => by
    unfold chM at k
    refine tZ_then (K := KD (gx X) W F G σ Q) st id (fun _ _ z => z) k fun x ts1 _ k1 F1 M1 H1 v1 s1 r1 st1 => ?_
    refine tZ_then (K := KD (gx X) W F1 G σ Q) st1 id (fun _ _ z => z) (KD.mono s1 k1) fun y ts2 _ k2 F2 M2 H2 v2 s2 r2 st2 => ?_
    have k3 := KD.mono s2 k2
    clear k2 k1 k
    cases q : f x y with
    | none => simp only [q] at k3; exact k3.elim
    | some t =>
      have e0 : (opt (some t) >>= fun t => asB t >>= fun k => if k = true then (mc >>= fun z => opt (f' y z)) else M.ret (.z (.bl false))) ts2 = (asB t >>= fun k => if k = true then (mc >>= fun z => opt (f' y z)) else M.ret (.z (.bl false))) ts2 := rfl
      rw [q, e0] at k3
      have hk : ∃ c, t = .z (.bl c) := by
        cases t with
        | z d => cases d with
          | bl c => exact ⟨c, rfl⟩
          | _ => exact k3.elim
        | _ => exact k3.elim
      obtain ⟨c, rfl⟩ := hk
      have e1 : (asB (.z (.bl c)) >>= fun k => if k = true then (mc >>= fun z => opt (f' y z)) else M.ret (.z (.bl false))) ts2 = (if c = true then (mc >>= fun z => opt (f' y z)) else M.ret (.z (.bl false))) ts2 := rfl
      rw [e1] at k3
      have sF2 : Same F2 H2 := st2.hc.fh
      refine hs F2 H2 v1 v2 x y _ _ sF2 (.r (r1.mono s2)) (.r r2) q (out_of st2 fun F3 Mv M3 H3 v3 s3 r3 st3 dj => ?_)
      cases r3 with
      | z r3 =>
        cases r3
        refine ⟨c, rfl, ?_⟩
        cases c with
        | false =>
          rw [if_neg (by simp)] at k3 ⊢
          exact k3 F3 em M3 H3 _ s3 (.z (.bl _)) (st3.drop dj) Dj.em_l
        | true =>
          rw [if_pos rfl] at k3 ⊢
          refine tV_then (K := KD (gx X) W F3 G σ Q) (st3.drop dj) id (fun _ _ z => z) (KD.mono s3 k3) fun z ts4 _ k4 F4 M4 H4 v4 s4 r4 st4 => ?_
          obtain ⟨t', q', out⟩ := KD.opt st4 (KD.mono s4 k4)
          exact hs' F4 H4 v2 v4 y z t' Q st4.hc.fh (.r (r2.mono (s3.trans s4))) r4 q' out
theorem e_chain {op op' : CmpOp} {r r' : R2} {f f' : D → D → Option T} {ma mb mc : M D} (ho : OpR X (compareOp op) r) (ho' : OpR X (compareOp op') r') (hs : Op2 (gx X) r f) (hs' : Op2 (gx X) r' f') (ha : PE X a (tZ (gx X) W ma)) (hb : PE X b (tZ (gx X) W mb)) (hc : PE X c (tV (gx X) W mc))
    (hm : lastMarks [op, op'] [b, c] = false) : PE X (.Compare a [op, op'] [b, c] pos) (tD (gx X) W (chM f f' ma mb mc)) := pe_imp (pe_chain ho ho' ha hb hc hm) (tChain_of hs hs')
theorem t_chain {op op' : CmpOp} {r r' : R2} {f f' : D → D → Option T} {ma mb mc : M D} (ho : OpR X (compareOp op) r) (ho' : OpR X (compareOp op') r') (hs : Op2 (gx X) r f) (hs' : Op2 (gx X) r' f') (ha : PE X a (tZ (gx X) W ma)) (hb : PE X b (tZ (gx X) W mb)) (hc : PE X c (tV (gx X) W mc))
    (hm : lastMarks [op, op'] [b, c] = false) : PT X (.Compare a [op, op'] [b, c] pos) (tB (gx X) W (chB f f' ma mb mc)) := pt_imp (pt_chain ho ho' ha hb hc hm) fun σ H Q ⟨F, Mm, G, ts, st, k⟩ => by
  refine tChain_of hs hs' σ H _ ⟨F, Mm, G, ts, st, ?_⟩
  unfold chB at k
  cases q : chM f f' ma mb mc ts with
  | bad => rw [bind_bad q] at k; exact k
  | ex c ts' => rw [bind_ex q] at k; exact k
  | ok t ts' =>
    rw [bind_ok q] at k
    intro F' Mv M' H' v s r st1 dj
    cases t with
    | z d =>
      cases d with
      | bl c =>
        cases r with
        | z r =>
          cases r
          exact ⟨c, rfl, k F' M' H' s (st1.drop dj)⟩
      | _ => exact k.elim
    | _ => exact k.elim
@[simp] theorem chM_ap (f g ma mb mc ts) : chM f g ma mb mc ts = (ma ts).and fun x ts1 => (mb ts1).and fun y ts2 => (opt (f x y) ts2).and fun t ts3 => (asB t ts3).and fun k ts4 => if k = true then (mc ts4).and fun z ts5 => opt (g y z) ts5 else .ok (.z (.bl false)) ts4 := by
  unfold chM
  rw [bind_ap]; congr 1; funext x ts1
  rw [bind_ap]; congr 1; funext y ts2
  rw [bind_ap]; congr 1; funext t ts3
  rw [bind_ap]; congr 1; funext k ts4
  cases k
  · rfl
  · show (mc >>= fun z => opt (g y z)) ts4 = _
    rw [bind_ap]; rfl
@[simp] theorem chB_ap (f g ma mb mc ts) : chB f g ma mb mc ts = (chM f g ma mb mc ts).and asB := by unfold chB; rw [bind_ap]
/-! list(range(..)) -/
instance (a b : Int) : Decidable (RgOk a b) := by unfold RgOk; infer_instance
def oLR (i j : Int) : Option T := if RgOk i j then some (.l ((upto i j).map .z)) else none
def oLR2 (d e : D) : Option T := match d, e with
  | .int i, .int j => oLR i j
  | _, _ => none
def oLR1 (e : D) : Option T := match e with
  | .int j => oLR 0 j
  | _ => none
theorem rgV_rp {g : Gx} {F : Hp} {i j : Int} : RpAll g F (rgV i j) (upto i j) := by
  unfold rgV upto
  generalize List.range (j - i).toNat = l
  induction l with
  | nil => exact .nil
  | cons x l ih => exact .cons (.int _) ih
theorem oLR_out {g : Gx} {F H : Hp} {i j : Int} {t : T} {Q : VK} (e : oLR i j = some t) (h : Out g F H t Q) : RgOk i j ∧ ∀ q, H q = none → Q (.ref q) (upd H q (.lst (rgV i j))) := by
  unfold oLR at e
  split at e
  · rename_i hr
    cases e
    exact ⟨hr, fun q hq => h.new rgV_rp q hq⟩
  · cases e
theorem e_listRg2 {p2 pos2 : Pos} {ma mb : M D} (hc : X.calm = true) (hm : X.mg "list" = none) (hg : Gl X "list") (hm2 : X.mg "range" = none) (hg2 : Gl X "range") (ha : PE X a (tZ (gx X) W ma)) (hb : PE X b (tV (gx X) W mb)) (n : nst a = true) (n2 : nst b = true) :
    PE X (.Call (.Name "list" p) [.Call (.Name "range" p2) [a, b] [] pos2] [] pos) (tD (gx X) W (binZ oLR2 ma mb)) :=
  pe_imp (pe_listRg hc hg hm (prg_2 hg2 hm2 ha hb (star_of n _ _) (star_of n2 _ _) (by rw [star_of n2]; rfl))) fun σ H Q ⟨F, Mm, G, ts, st, k⟩ => by
    unfold binZ at k
    refine tZ_then (K := KD (gx X) W F G σ Q) st id (fun _ _ z => z) k fun x ts1 _ k1 F1 M1 H1 v1 s1 r1 st1 => ?_
    refine tV_then (K := KD (gx X) W F1 G σ Q) st1 id (fun _ _ z => z) (KD.mono s1 k1) fun y ts2 _ k2 F2 M2 H2 v2 s2 r2 st2 => ?_
    obtain ⟨t, q, out⟩ := KD.opt st2 (KD.mono s2 k2)
    unfold oLR2 at q
    split at q
    · cases r1; cases r2.int
      exact ⟨_, _, rfl, rfl, oLR_out q out⟩
    · cases q
theorem e_listRg1 {p2 pos2 : Pos} {mb : M D} (hc : X.calm = true) (hm : X.mg "list" = none) (hg : Gl X "list") (hm2 : X.mg "range" = none) (hg2 : Gl X "range") (hb : PE X b (tV (gx X) W mb)) (n2 : nst b = true) :
    PE X (.Call (.Name "list" p) [.Call (.Name "range" p2) [b] [] pos2] [] pos) (tD (gx X) W (un1 oLR1 mb)) :=
  pe_imp (pe_listRg hc hg hm (prg_1 hg2 hm2 hb (star_of n2 _ _))) fun σ H Q ⟨F, Mm, G, ts, st, k⟩ => by
    unfold un1 at k
    refine tV_then (K := KD (gx X) W F G σ Q) st id (fun _ _ z => z) k fun y ts2 _ k2 F2 M2 H2 v2 s2 r2 st2 => ?_
    obtain ⟨t, q, out⟩ := KD.opt st2 (KD.mono s2 k2)
    unfold oLR1 at q
    split at q
    · cases r2.int
      exact ⟨_, rfl, oLR_out q out⟩
    · cases q
/-! xs[::-1] -/
def oRev : D → Option T
  | .lst l => some (.l (l.reverse.map .z))
  | _ => none
theorem e_revL {k : Nat} {p1 p2 p3 : Pos} {ma : M D} (he : PE X e (tV (gx X) W ma)) : PE X (.Subscript e (.Slice none none (some (.UnaryOp .USub (.Constant (.int 1) k p1) p2)) p3) pos) (tD (gx X) W (un1 oRev ma)) :=
  pe_imp (pe_revL he) fun σ H Q ⟨F, Mm, G, ts, st, k⟩ => by
    unfold un1 at k
    refine tV_then (K := KD (gx X) W F G σ Q) st id (fun _ _ z => z) k fun y ts2 _ k2 F2 M2 H2 v2 s2 r2 st2 => ?_
    obtain ⟨t, q, out⟩ := KD.opt st2 (KD.mono s2 k2)
    unfold oRev at q
    split at q
    · cases q
      obtain ⟨a, xs, rfl, ha, ra⟩ := r2.lst st2.hc.fh
      exact ⟨a, xs, rfl, .of ha, out.new ra.reverse⟩
    · cases q
/-! constants of the module -/
theorem pe_gint {x : Str} {i : Int} (hm : ∃ t, X.mg x = some (.int i t)) (hg : Gl X x) (hd : (x == ("__debug__" : Str)) = false) : PE X (.Name x pos) (tC (.int i)) := by
  obtain ⟨t, hm⟩ := hm
  exact pe_glob hg hm ⟨t, rfl⟩ hd
theorem pe_gstr {x : Str} {i : Str} (hm : ∃ t, X.mg x = some (.str i t)) (hg : Gl X x) (hd : (x == ("__debug__" : Str)) = false) : PE X (.Name x pos) (tC (.str i)) := by
  obtain ⟨t, hm⟩ := hm
  exact pe_glob hg hm ⟨t, rfl⟩ hd
end
/-! clear, extend -/
section
variable {X : Cx} {W : WX} {e : Expr} {x : Str} {p apos cpos : Pos} {i : Nat}
def clrM (i : Nat) : M T := fun ts => if isL i ts = true then .ok (.z .non) (ts.set i (.l [])) else .bad
theorem pe_clrM (hN : X.N[i]? = some x) (hv : Vis X.env.scope x) (hd : (x == ("__debug__" : Str)) = false) (hcd : (x == ("__classdict__" : Str)) = false) (hl : (apos.endLine == cpos.line) = true) :
    PE X (.Call (.Attribute (.Name x p) "clear" apos) [] [] cpos) (tD (gx X) W (clrM i)) :=
  pe_imp (pe_bm0 PySem.F.plainAttrs_list PySem.F.slot_list_clear PySem.F.type_list_clear mt_clear (pe_var hN hv hd hcd) rfl hl) fun σ H Q ⟨F, Mm, G, ts, st, k⟩ => by
    unfold clrM at k
    by_cases hi : isL i ts = true
    · rw [if_pos hi] at k
      obtain ⟨xs0, e0⟩ := isL_eq hi
      obtain ⟨a, ws0, Mc0, e1, hH, rs, dc, fin⟩ := Sta.lst (Mv := em) st Dj.em_l e0
      refine ⟨.ref a, e1, tyL (g := gx X) hH, ?_⟩
      obtain ⟨M', st2, dj2⟩ := fin [] [] em em .nil Same.empty Same.empty Dj.em_l
      exact ⟨a, ws0, rfl, rfl, hH, k F em M' _ _ (Same.refl _) (.z .non) st2 Dj.em_l⟩
    · rw [if_neg hi] at k; exact k.elim
@[simp] theorem clrM_ap (i ts) : clrM i ts = if isLO ts[i]? = true then .ok (.z .non) (ts.set i (.l [])) else .bad := by
  unfold clrM
  have e1 : isL i ts = isLO ts[i]? := by
    unfold isL isLO
    cases ts[i]? with
    | none => rfl
    | some t => cases t <;> rfl
  rw [e1]
def poD (i : Nat) (j : Int) (ts : List T) : Option T → R T
  | some (.l xs) => if big62 j then (match ixN xs.length j with
        | some k => match xs[k]? with
          | some t => .ok t (ts.set i (.l (xs.eraseIdx k)))
          | none => .bad
        | none => .bad) else .bad
  | _ => .bad
def poT (i : Nat) (ts : List T) : D → R T
  | .int j => poD i j ts ts[i]?
  | _ => .bad
@[simp] theorem poT_int (i ts j) : poT i ts (.int j) = poD i j ts ts[i]? := rfl
theorem poD_l {i : Nat} {j : Int} {ts xs : List T} {t : T} (h0 : 0 ≤ j) (h1 : j < 4611686018427387904) (h : xs[j.toNat]? = some t) : poD i j ts (some (.l xs)) = .ok t (ts.set i (.l (xs.eraseIdx j.toNat))) := by
  have hl : j.toNat < xs.length := (List.getElem?_eq_some_iff.mp h).1
  have e : ixN xs.length j = some j.toNat := by unfold ixN; rw [if_pos h0, if_pos (by omega)]
  show (if big62 j then (match ixN xs.length j with
        | some k => match xs[k]? with
          | some t => R.ok t (ts.set i (.l (xs.eraseIdx k)))
          | none => .bad
        | none => .bad) else .bad) = _
  rw [if_pos ⟨by omega, by omega⟩, e]
  dsimp only
  rw [h]
@[simp] theorem popM_ap (i m ts) : popM i m ts = if isLO ts[i]? = true then (m ts).and fun d ts1 => poT i ts1 d else .bad := by
  unfold popM
  have e1 : isL i ts = isLO ts[i]? := by
    unfold isL isLO
    cases ts[i]? with
    | none => rfl
    | some t => cases t <;> rfl
  rw [e1]
  split
  · rw [bind_ap]
    congr 1
  · rfl
end
/-! values -/
def uI (lo hi : Int) : List Int := (List.range (hi - lo).toNat).map fun (k : Nat) => lo + k
@[simp] theorem upto_nD (lo hi) : upto lo hi = nD (uI lo hi) := by unfold upto uI nD; rw [List.map_map]; rfl
@[simp] theorem uI_length (lo hi) : (uI lo hi).length = (hi - lo).toNat := by unfold uI; simp
@[simp] theorem oLR2_int (i j) : oLR2 (.int i) (.int j) = if RgOk i j then some (.l (nT (uI i j))) else none := by
  show oLR i j = _
  unfold oLR
  rw [upto_nD, nD_nT]
@[simp] theorem oLR1_int (j) : oLR1 (.int j) = if RgOk 0 j then some (.l (nT (uI 0 j))) else none := by
  show oLR 0 j = _
  unfold oLR
  rw [upto_nD, nD_nT]
@[simp] theorem oRev_nD (l) : oRev (.lst (nD l)) = some (.l (nT l.reverse)) := by
  show some (T.l ((nD l).reverse.map .z)) = _
  unfold nD nT
  rw [← List.map_reverse, List.map_map]; rfl
theorem rgOk_of {a b : Int} (h0 : 0 ≤ a) (h1 : b ≤ 16777216) (h2 : a ≤ 16777216) (h3 : 0 ≤ b) : RgOk a b := .of_le h0 h1 h2 h3
@[simp] theorem nT_erase (l : List Int) (k) : (nT l).eraseIdx k = nT (l.eraseIdx k) := by
  unfold nT
  induction l generalizing k with
  | nil => rfl
  | cons x l ih => cases k with
    | zero => rfl
    | succ k => show T.z (.int x) :: (List.map (fun i => T.z (D.int i)) l).eraseIdx k = _; rw [ih]; rfl
theorem perm_erase : ∀ (l : List Int) (i : Nat) (h : i < l.length), (l[i] :: l.eraseIdx i).Perm l
  | [], _, h => absurd h (by simp)
  | x :: l, 0, _ => List.Perm.refl _
  | x :: l, i + 1, h => by
    have hi : i < l.length := by simpa using h
    show (l[i] :: x :: l.eraseIdx i).Perm (x :: l)
    exact (List.Perm.swap _ _ _).trans (List.Perm.cons _ (perm_erase l i hi))
theorem isort_eq {a b : List Int} (h : ∀ x, x ∈ a ↔ x ∈ b) : isort (ddp a) = isort (ddp b) := by
  have p : (ddp a).Perm (ddp b) := perm_of_mem (ddp_nodup a) (ddp_nodup b) fun x => by rw [mem_ddp, mem_ddp]; exact h x
  exact sort_unique ((isort_perm (ddp a)).trans p) (isort_sorted _)
theorem mem_rise {x : Int} {a : List Int} : x ∈ isort (ddp a) ↔ x ∈ a := by rw [(isort_perm (ddp a)).mem_iff, mem_ddp]
theorem rise_nodup (a : List Int) : (isort (ddp a)).Nodup := (isort_perm (ddp a)).nodup_iff.mpr (ddp_nodup a)
theorem rise_length (a : List Int) : (isort (ddp a)).length = (ddp a).length := (isort_perm (ddp a)).length_eq
/-- how many are common -/
def mcI (a b : List Int) : Nat := ((isort (ddp a)).filter fun x => decide (x ∈ b)).length
def rnI (a : List Int) : Nat := (isort (ddp a)).length
theorem mcI_eq {a a' b b' : List Int} (h : ∀ x, x ∈ a ↔ x ∈ a') (h' : ∀ x, x ∈ b ↔ x ∈ b') : mcI a b = mcI a' b' := by
  unfold mcI
  rw [isort_eq h]
  congr 2
  funext x
  exact decide_eq_decide.mpr (h' x)
theorem rnI_eq {a a' : List Int} (h : ∀ x, x ∈ a ↔ x ∈ a') : rnI a = rnI a' := by unfold rnI; rw [isort_eq h]
theorem mcI_comm (a b : List Int) : mcI a b = mcI b a := by
  unfold mcI
  refine (perm_of_mem ((rise_nodup a).filter _) ((rise_nodup b).filter _) fun x => ?_).length_eq
  rw [List.mem_filter, List.mem_filter, mem_rise, mem_rise, decide_eq_true_eq, decide_eq_true_eq]
  exact And.comm
theorem mcI_self (a : List Int) : mcI a a = rnI a := by
  unfold mcI rnI
  rw [List.filter_eq_self.mpr]
  intro x hx
  exact decide_eq_true (mem_rise.mp hx)
theorem mcI_nil (a : List Int) : mcI a [] = 0 := by
  unfold mcI
  rw [List.filter_eq_nil_iff.mpr]
  · rfl
  · intro x _; simp
theorem rnI_le (a : List Int) : rnI a ≤ a.length := by unfold rnI; rw [rise_length]; exact ddp_length a
theorem rnI_pos {a : List Int} : 0 < rnI a ↔ a ≠ [] := by
  constructor
  · rintro h rfl; exact absurd h (by decide)
  · intro h
    cases a with
    | nil => exact absurd rfl h
    | cons x l =>
      have : x ∈ isort (ddp (x :: l)) := mem_rise.mpr List.mem_cons_self
      exact List.length_pos_of_mem this
theorem pys_nD (l : List Int) : D.pys (nD l) = some (l.map PyData.int) := by
  induction l with
  | nil => rfl
  | cons x l ih => rw [nD_cons, D.pys, ih]; rfl
theorem eqvAll_int : ∀ a b : List Int, PyData.eqvAll (a.map .int) (b.map .int) = decide (a = b)
  | [], [] => by simp [PyData.eqvAll]
  | [], y :: b => by simp [PyData.eqvAll]
  | x :: a, [] => by simp [PyData.eqvAll]
  | x :: a, y :: b => by
    rw [List.map_cons, List.map_cons, PyData.eqvAll, PyData.eqv, eqvAll_int a b, beq_int]
    by_cases h : x = y <;> by_cases h2 : a = b <;> simp [h, h2]
theorem eqd_nD (a b : List Int) : eqd (.lst (nD a)) (.lst (nD b)) = decide (a = b) := by
  have e : ∀ l, pyD (.lst (nD l)) = .list (l.map PyData.int) := fun l => by
    unfold pyD
    rw [D.py, pys_nD]
  unfold eqd
  rw [e, e, PyData.eqv, eqvAll_int]
theorem okq_nD (a : List Int) : okq (.lst (nD a)) = true := okq_of (k := 1) (by simp) (by omega)
@[simp] theorem oEq_nD (a b : List Int) : oEq (.lst (nD a)) (.lst (nD b)) = some (.z (.bl (decide (a = b)))) := by
  unfold oEq
  rw [if_pos ⟨okq_nD a, okq_nD b⟩, eqd_nD]
@[simp] theorem oNe_nD (a b : List Int) : oNe (.lst (nD a)) (.lst (nD b)) = some (.z (.bl (!decide (a = b)))) := by
  unfold oNe
  rw [if_pos ⟨okq_nD a, okq_nD b⟩, eqd_nD]
@[simp] theorem oNe_nD_nil (a : List Int) : oNe (.lst (nD a)) (.lst []) = some (.z (.bl (!decide (a = [])))) := oNe_nD a []
@[simp] theorem oEq_nD_nil (a : List Int) : oEq (.lst (nD a)) (.lst []) = some (.z (.bl (decide (a = [])))) := oEq_nD a []
@[simp] theorem oInt_bl (b) : oInt (.bl b) = some (.z (.int (if b then 1 else 0))) := rfl
@[simp] theorem oInt_int (b) : oInt (.int b) = some (.z (.int b)) := rfl
def mnI (i j : Int) : Int := if j < i then j else i
def mxI (i j : Int) : Int := if j > i then j else i
@[simp] theorem oMin2_int (i j) : oMin2 (.int i) (.int j) = some (.z (.int (mnI i j))) := rfl
@[simp] theorem oMax2_int (i j) : oMax2 (.int i) (.int j) = some (.z (.int (mxI i j))) := rfl
theorem mnI_eq (i j : Int) : (mnI i j = i ∧ i ≤ j) ∨ (mnI i j = j ∧ j < i) := by unfold mnI; split <;> omega
theorem mxI_eq (i j : Int) : (mxI i j = i ∧ j ≤ i) ∨ (mxI i j = j ∧ i < j) := by unfold mxI; split <;> omega

def R.cmp (r : R (Option D)) (k : List T → R (List D)) : R (List D) := match r with
  | .ok (some y) ts => (match k ts with | .ok l ts' => .ok (y :: l) ts' | .ex c ts' => .ex c ts' | .bad => .bad)
  | .ok none ts => k ts
  | _ => .bad
def R.push (y : D) (r : R (List D)) : R (List D) := match r with | .ok l ts' => .ok (y :: l) ts' | .ex c ts' => .ex c ts' | .bad => .bad
@[simp] theorem push_ok (y l ts) : R.push y (.ok l ts) = .ok (y :: l) ts := rfl
@[simp] theorem cmp_some (y ts k) : R.cmp (.ok (some y) ts) k = R.push y (k ts) := rfl
@[simp] theorem cmp_none (ts k) : R.cmp (.ok none ts) k = k ts := rfl
theorem compR_nil (vs put mc me ts) : compR vs put mc me [] ts = .ok [] (wipeT ts vs) := rfl
theorem compR_cons (vs put mc me d ds ts) : compR vs put mc me (d :: ds) ts = (cTurn put mc me d (wipeT ts vs)).cmp (compR vs put mc me ds) := by
  show (match put d (wipeT ts vs) with
    | none => R.bad
    | some ts1 => match mc ts1 with
      | .ok b ts2 => if b = true then (match me ts2 with
          | .ok y ts3 => match compR vs put mc me ds ts3 with
            | .ok l ts4 => .ok (y :: l) ts4
            | .ex c ts4 => .ex c ts4
            | .bad => .bad
          | _ => .bad) else compR vs put mc me ds ts2
      | _ => .bad) = _
  unfold cTurn
  cases q : put d (wipeT ts vs) with
  | none => rfl
  | some ts1 =>
    simp only [putO_some]
    cases q1 : mc ts1 with
    | ok b ts2 =>
      simp only [and_ok]
      cases b with
      | true =>
        simp only [if_pos]
        cases q2 : me ts2 <;> rfl
      | false => rfl
    | ex c t => rfl
    | bad => rfl
@[simp] theorem oSum_t3 (a b c) : oSum (.tup [.int a, .int b, .int c]) = some (.z (.int (a + (b + (c + 0))))) := rfl
@[simp] theorem uI_03 : uI 0 3 = [0, 1, 2] := rfl
@[simp] theorem toB_bl (b) : toB (.bl b) = some b := rfl
theorem blsD_map (l : List Bool) : blsD (l.map .bl) = some l := by
  induction l with
  | nil => rfl
  | cons x l ih => rw [List.map_cons, blsD, ih]; rfl
theorem oAll_bls (l : List Bool) : oAll (.lst (l.map .bl)) = some (.z (.bl (l.all id))) := by
  show (match blsD (l.map .bl) with | some ns => some (T.z (.bl (ns.all id))) | none => none) = _
  rw [blsD_map]
theorem filter_len (p : Int → Bool) (l : List Int) : (l.filter p).length + (l.filter fun x => !p x).length = l.length := by
  induction l with
  | nil => rfl
  | cons x l ih =>
    by_cases h : p x = true
    · rw [List.filter_cons_of_pos h, List.filter_cons_of_neg (by simp [h])]; simp only [List.length_cons]; omega
    · rw [List.filter_cons_of_neg h, List.filter_cons_of_pos (by simp [h])]; simp only [List.length_cons]; omega
theorem cut_mem {l : List Int} {a b : Option Int} {x : Int} (h : x ∈ cutD l a b) : x ∈ l := by
  unfold cutD at h
  exact List.mem_of_mem_drop (List.mem_of_mem_take h)
def notIn (a : List Int) : List Int := (uI 1 61).filter fun x => !decide (x ∈ a)
theorem notIn_length (a : List Int) : (notIn a).length ≤ 60 := by
  have := List.length_filter_le (fun x => !decide (x ∈ a)) (uI 1 61)
  have h : (uI 1 61).length = 60 := by rw [uI_length]; rfl
  unfold notIn; omega

theorem compR_filtM {α : Type} {vs : List Nat} {put : D → List T → Option (List T)} {mc : M Bool} {me : M D} {ts ts0 : List T} {l : List α} (i : α → D) (P : α → Bool) (e : wipeT ts vs = ts0)
    (h : ∀ x ∈ l, (cTurn put mc me (i x) ts0).wipe vs = .ok (if P x = true then some (i x) else none) ts0) : compR vs put mc me (l.map i) ts = .ok ((l.filter P).map i) ts0 := by
  induction l generalizing ts with
  | nil => rw [List.map_nil, compR_nil, e]; rfl
  | cons x l ih =>
    have k2 := h x List.mem_cons_self
    rw [List.map_cons, compR_cons, e]
    cases q : cTurn put mc me (i x) ts0 with
    | bad => rw [q] at k2; cases k2
    | ex c t => rw [q] at k2; cases k2
    | ok o t =>
      rw [q, wipe_ok] at k2
      injection k2 with e1 e2
      subst e1
      have r := ih (ts := t) e2 fun z hz => h z (List.mem_cons_of_mem _ hz)
      by_cases hp : P x = true
      · rw [if_pos hp, cmp_some, r, push_ok, List.filter_cons_of_pos hp, List.map_cons]
      · rw [if_neg hp, cmp_none, r, List.filter_cons_of_neg hp]
def apI (a b : List Int) : List Int := (isort (ddp a)).filter fun x => !decide (x ∈ b)
def cmI (a b : List Int) : List Int := (isort (ddp a)).filter fun x => decide (x ∈ b)
theorem apI_eq {a a' b b' : List Int} (h : ∀ x, x ∈ a ↔ x ∈ a') (h' : ∀ x, x ∈ b ↔ x ∈ b') : apI a b = apI a' b' := by
  unfold apI
  rw [isort_eq h]
  congr 1
  funext x
  rw [decide_eq_decide.mpr (h' x)]
theorem cmI_eq {a a' b b' : List Int} (h : ∀ x, x ∈ a ↔ x ∈ a') (h' : ∀ x, x ∈ b ↔ x ∈ b') : cmI a b = cmI a' b' := by
  unfold cmI
  rw [isort_eq h]
  congr 1
  funext x
  exact decide_eq_decide.mpr (h' x)
theorem cmI_length (a b : List Int) : (cmI a b).length = mcI a b := rfl
theorem apI_length (a b : List Int) : (apI a b).length + mcI a b = rnI a := by
  have := filter_len (fun x => decide (x ∈ b)) (isort (ddp a))
  unfold apI mcI rnI
  omega
@[simp] theorem oEq_nil_nil : oEq (.lst []) (.lst []) = some (.z (.bl true)) := oEq_refl (k := 1) rfl (by omega)
/-- a loop that goes through, by an invariant with a count -/
theorem loopS_rel {put : D → List T → Option (List T)} {body : S} (I : Nat → List T → Prop) : ∀ (ds : List D) (n : Nat) (ts : List T), I n ts →
    (∀ k ts d, d ∈ ds → k < n + ds.length → I k ts → ∃ ts', lTurn put body d ts = .nx ts' ∧ I (k + 1) ts') → ∃ ts', loopS put body ds ts = .nx ts' ∧ I (n + ds.length) ts'
  | [], n, ts, h0, _ => ⟨ts, rfl, h0⟩
  | d :: ds, n, ts, h0, h => by
    obtain ⟨ts1, e1, i1⟩ := h n ts d List.mem_cons_self (by rw [List.length_cons]; omega) h0
    obtain ⟨ts2, e2, i2⟩ := loopS_rel I ds (n + 1) ts1 i1 fun k us d' hd hk => h k us d' (List.mem_cons_of_mem _ hd) (by rw [List.length_cons]; omega)
    refine ⟨ts2, by rw [loopS_cons, e1, lp_nx, e2], ?_⟩
    rw [List.length_cons, show n + (ds.length + 1) = n + 1 + ds.length by omega]
    exact i2
/-- alike, by sets -/
def alkB (n m k : Nat) : Bool := decide (n < 2 * k) && decide (m < 2 * k)
def smI (a b : List Int) : Bool := alkB (rnI a) (rnI b) (mcI a b)
end Ar
/-! ArX: raise, try .. except, isinstance of what was caught. -/
namespace Ar
open PySem PySem.Spec PyProof.Rows L2
/-- an own class of exceptions, by its name -/
def ExcF (K : PySem.W.Frag) (mg : Str → Option Value) (x : Str) : Prop := ∃ C : Addr, mg x = some (.ref C) ∧ PySem.W.excIn K C [.type "ValueError", .type "Exception", .type "BaseException", .type "object"] "ValueError.__new__" = true ∧
  PySem.W.keepIn K (.ref C) = true ∧ PySem.W.subIn K (.ref C) (.type "BaseException") = some true ∧ PySem.W.typeIn K (.ref C) = some (.type "type")
/-- what 'except y' catches of the classes that are named -/
def CatT (K : PySem.W.Frag) (mg : Str → Option Value) (y : Str) (cat : Str → Option Bool) : Prop := ∃ D : Addr, mg y = some (.ref D) ∧ ∀ e b C, cat e = some b → mg e = some (.ref C) → PySem.W.exmOne K (.ref C) (.ref D) = some b
/-- what isinstance(.., y) tells of their instances -/
def IsT (K : PySem.W.Frag) (mg : Str → Option Value) (y : Str) (is : Str → Option Bool) : Prop := ∃ D : Addr, mg y = some (.ref D) ∧ ∀ e b C, is e = some b → mg e = some (.ref C) → PySem.W.kitOne K (.ref C) (.ref D) = some b ∧ ExcC K C
section
variable {X : Cx} {W : WX} {bs : List Nat} {pos p p2 pos' np : Pos}
theorem ps_raiseO {x m : Str} {j : Nat} (F : ExcF X.K X.mg x) (hc : X.calm = true) (tk : Takes X W) (hg : Gl X x) (hdb : (x == ("__debug__" : Str)) = false) :
    PS X (.Raise (some (.Call (.Name x p) [.Constant (.str m) j p2] [] pos)) none pos') (tS (gx X) W bs (RS.ex x)) := by
  obtain ⟨C, h1, h2, h3, h4, h5⟩ := F
  exact ps_raiseS hc tk (pmk_own PySem.F.excBase_ValueError h2 h1 h3 (raises_own h4 h5) hg hdb) h1
/-! ### the suite's statements, where slot i holds what was caught -/
def tX (i : Nat) (a : Addr) (t : TS) : TS := fun D σ H => σ[i]? = some (some (.ref a)) ∧ t D σ H
/-- a value that is known -/
def tKn (i : Nat) (a : Addr) (v : V) : TE := fun σ H Q => σ[i]? = some (some (.ref a)) ∧ Q v H
theorem ps_X {st : Stmt} {i : Nat} {a : Addr} {m : S} (h : PS X st (tS (gx X) W bs m)) : PS X st (tX i a (tS (gx X) W bs m)) := ps_imp h fun D σ H q => q.2
theorem pss_nilX {i : Nat} {a : Addr} : PSs X [] (tX i a (tS (gx X) W bs RS.nx)) := pss_imp pss_nilS fun D σ H q => q.2
theorem pss_consX {st : Stmt} {rest : List Stmt} {i : Nat} {a : Addr} {m n : S} (hi : i ∈ bs) (h1 : PS X st (tX i a (tS (gx X) W bs m))) (h2 : PSs X rest (tX i a (tS (gx X) W bs n))) : PSs X (st :: rest) (tX i a (tS (gx X) W bs (sq m n))) :=
  pss_imp (pss_cons h1 h2) fun D σ H ⟨f, F, Mm, G, ts, sa, k⟩ => by
    refine ⟨f, F, Mm, G, ts, sa, ?_⟩
    unfold sq at k
    cases e : m ts with
    | nx ts' =>
      rw [e] at k
      intro F' M' H' σ' s1 st q
      exact ⟨by rw [q i hi]; exact f, F', M', G, ts', st, KS.mono k s1 q⟩
    | bk ts' => rw [e] at k; exact k
    | ct ts' => rw [e] at k; exact k
    | rt t ts' => rw [e] at k; exact k
    | ex c ts' => rw [e] at k; exact k
    | bad => rw [e] at k; exact k
/-! isinstance -/
theorem k_isE {n y : Str} {i : Nat} {a C : Addr} {oe : Obj} {pn : List (Addr × Obj)} {is : Str → Option Bool} {e : Str} {b : Bool} (I : IsT X.K X.mg y is) (he : X.mg e = some (.ref C)) (hb : is e = some b) (hz : Zc (.ref C) none oe) (hf : ∃ vs, oe.data = .fields vs)
    (hm : X.mg "isinstance" = none) (hg : Gl X "isinstance") (hgy : Gl X y) (hdy : (y == ("__debug__" : Str)) = false) (hN : X.N[i]? = some n) (hv : Vis X.env.scope n) (hd : (n == ("__debug__" : Str)) = false) (hcd : (n == ("__classdict__" : Str)) = false) :
    PE (X.suite a ((a, oe) :: pn)) (.Call (.Name "isinstance" p) [.Name n p2, .Name y np] [] pos) (tKn i a (.bl b)) := by
  obtain ⟨D, hD, hq⟩ := I
  obtain ⟨q, EC⟩ := hq e b C hb he
  refine pe_imp (pe_callB (X := X.suite a ((a, oe) :: pn)) (call_isE EC hz hf) hg hm (by decide +kernel) (pa_cons (pe_var hN hv hd hcd) (pa_cons (pe_glob (v := .ref D) hgy hD rfl hdy) pa_nil))) fun σ H Q ⟨f, k⟩ => ?_
  exact ⟨.ref a, f, .ref D, .ref D, b, rfl, fun u r => by cases r; rfl, q, k⟩
theorem k_and {i : Nat} {aa : Addr} {b c : Bool} {e f : Expr} (h1 : PE X e (tKn i aa (.bl b))) (h2 : PE X (.BoolOp .And [f] pos) (tKn i aa (.bl c))) : PE X (.BoolOp .And [e, f] pos) (tKn i aa (.bl (b && c))) :=
  pe_imp (pe_and h1 h2) fun σ H Q ⟨q, k⟩ => ⟨q, b, rfl, by cases b <;> simp at k ⊢ <;> first | exact k | exact ⟨q, k⟩⟩
theorem k_or {i : Nat} {aa : Addr} {b c : Bool} {e f : Expr} (h1 : PE X e (tKn i aa (.bl b))) (h2 : PE X (.BoolOp .Or [f] pos) (tKn i aa (.bl c))) : PE X (.BoolOp .Or [e, f] pos) (tKn i aa (.bl (b || c))) :=
  pe_imp (pe_or h1 h2) fun σ H Q ⟨q, k⟩ => ⟨q, b, rfl, by cases b <;> simp at k ⊢ <;> first | exact k | exact ⟨q, k⟩⟩
theorem k_one {i : Nat} {aa : Addr} {v : V} {op : BoolOp} {e : Expr} (h : PE X e (tKn i aa v)) : PE X (.BoolOp op [e] pos) (tKn i aa v) := pe_one h
theorem k_not {i : Nat} {aa : Addr} {b : Bool} {e : Expr} (h1 : PE X e (tKn i aa (.bl b))) : PE X (.UnaryOp .Not e pos) (tKn i aa (.bl (!b))) :=
  pe_imp (pe_not h1) fun σ H Q ⟨q, k⟩ => ⟨q, b, rfl, k⟩
theorem ps_setK {i j : Nat} {aa : Addr} {b : Bool} {e : Expr} {x : Str} (h : PE X e (tKn i aa (.bl b))) (hN : X.N.Nodup) (hi : X.N[j]? = some x) (hx : Loc X.env.scope x) (hs : swapsWith e (some (.Name x pos')) pos.line X.env = pure false)
    (hf : X.fn x = true ∨ X.env.scope.names.lookup x = some .local) (hb : j ∉ bs) : PS X (.Assign [.Name x pos'] e pos) (tX i aa (tS (gx X) W bs (setS j (kT (.bl b))))) :=
  ps_imp (ps_set hN hi hx h hs hf) fun D σ H ⟨f, F, Mm, G, ts, sa, k⟩ => ⟨f, by
    by_cases hl : j < ts.length
    · have e0 : setS j (kT (.bl b)) ts = .nx (ts.set j (.z (.bl b))) := by
        show (if j < ts.length then RS.nx (ts.set j (.z (.bl b))) else .bad) = _
        rw [if_pos hl]
      rw [e0] at k
      obtain ⟨M', st2⟩ := sa.assignZ (d := .bl b) (.bl b) hl
      exact k F M' H _ (Same.refl _) st2 (Pin.set hb)
    · have e0 : setS j (kT (.bl b)) ts = .bad := by
        show (if j < ts.length then RS.nx (ts.set j (.z (.bl b))) else .bad) = _
        rw [if_neg hl]
      rw [e0] at k; exact k.elim⟩
/-- a mirror of the suite by the class that is caught: what is asked of it is known -/
def bySome (o : Option Bool) (s : Bool → S) : S := match o with
  | some b => s b
  | none => badS
end
/-! ### try -/
def fixT (i : Nat) : RS → RS
  | .nx t => .nx (t.set i .gone)
  | .bk t => .bk (t.set i .gone)
  | .ct t => .ct (t.set i .gone)
  | .rt v t => .rt v t
  | _ => .bad
def tryA (i : Nat) (cat : Str → Option Bool) (m : S) (s : Str → S) : S := fun ts => match m ts with
  | .ex e ts' => (match cat e with
    | some true => if i < ts'.length then fixT i (s e (ts'.set i .gone)) else .bad
    | some false => .ex e ts'
    | none => .bad)
  | r => r
def noEx : RS → RS
  | .ex _ _ => .bad
  | r => r
def tryO (cat : Str → Option Bool) (m : S) (s : Str → S) : S := fun ts => match m ts with
  | .ex e ts' => (match cat e with
    | some true => noEx (s e ts')
    | some false => .ex e ts'
    | none => .bad)
  | r => r
section
variable {X : Cx} {W : WX} {bs : List Nat} {pos np pos' : Pos} {y n : Str} {i : Nat} {body suite : List Stmt} {b₀ : Stmt} {m : S} {s : Str → S} {cat : Str → Option Bool}
theorem ps_tryA (hs : X.stack = X.env :: X.outer) (hfr : X.env.frame = some X.env.locals) (hN : X.N.Nodup) (hi : X.N[i]? = some n) (hln : X.env.kindOf n = some .local) (hg : Gl X y) (hd : (y == ("__debug__" : Str)) = false) (hC : CatT X.K X.mg y cat) (tk : Takes X W) (hib : i ∉ bs)
    (hb : ∀ (W' : WX) (pn : List (Addr × Obj)) (xe : Value → Shared → Prop), Takes (X.tr pn xe) W' → PassesOwn (model X.prog X.w) X.A X.env xe → PSs (X.tr pn xe) body (tS (gx X) W' bs m))
    (hsu : ∀ (e : Str) (a : Addr) (oe : Obj) (C : Addr) (pn : List (Addr × Obj)), X.mg e = some (.ref C) → Zc (.ref C) none oe → (∃ vs, oe.data = .fields vs) → PSs (X.suite a ((a, oe) :: pn)) (b₀ :: suite) (tX i a (tS (gx X) W0 (i :: bs) (s e)))) :
    PS X (.Try body [.ExceptHandler (some (.Name y np)) (some n) (b₀ :: suite) pos'] [] [] pos) (tS (gx X) W bs (tryA i cat m s)) := by
  obtain ⟨D0, hD, hcat⟩ := hC
  refine ps_imp (ps_try_as (c := .ref D0) (Wout := W) (tb := fun W' => tS (gx X) W' bs m) (ts := fun a cls d D σ H => ∃ e C, X.mg e = some (.ref C) ∧ cls = .ref C ∧ d = none ∧ tX i a (tS (gx X) W0 (i :: bs) (s e)) D σ H) hs hfr hN hi hln ⟨hg, hd, .inl hD⟩ tk hb
    (fun a oe cls d pn hz hf => ⟨fun pins s1 σ H D I ⟨e, C, he, hcl, hdd, q⟩ => by
      subst hcl hdd
      exact (hsu e a oe C pn he hz hf).run pins s1 σ H D I q⟩)) fun D σ H ⟨F, Mm, G, ts, sa, k⟩ => ?_
  refine ⟨F, Mm, G, ts, sa, ?_⟩
  unfold tryA at k
  cases q : m ts with
  | ex e ts' =>
    rw [q] at k
    dsimp only at k
    intro F1 M1 H1 σ1 C s1 st1 p1 he
    cases qc : cat e with
    | none => rw [qc] at k; exact k.elim
    | some b =>
      refine ⟨b, hcat e b C qc he, fun hb1 a ha => ?_, fun hb0 => ?_⟩
      · subst hb1
        rw [qc] at k
        dsimp only at k
        have hlen : σ1.length = ts'.length := st1.len
        refine ⟨e, C, he, rfl, rfl, ?_⟩
        by_cases hil2 : i < ts'.length
        · have hil : i < σ1.length := by omega
          rw [if_pos hil2] at k
          refine ⟨by rw [List.getElem?_set_self hil], F1, M1, G, ts'.set i .gone, st1.gone, ?_⟩
          have pin2 : ∀ {σ2 : L2.St}, Pin (i :: bs) (σ1.set i (some (.ref a))) σ2 → Pin bs σ (σ2.set i none) := fun {σ2} hp k hk => by
            have hki : i ≠ k := fun e => hib (e ▸ hk)
            rw [List.getElem?_set_ne hki, hp k (List.mem_cons_of_mem _ hk), List.getElem?_set_ne hki, p1 k hk]
          have pin3 : ∀ {σ2 : L2.St}, Pin (i :: bs) (σ1.set i (some (.ref a))) σ2 → Pin bs σ σ2 := fun {σ2} hp k hk => by
            have hki : i ≠ k := fun e => hib (e ▸ hk)
            rw [hp k (List.mem_cons_of_mem _ hk), List.getElem?_set_ne hki, p1 k hk]
          cases qs : s e (ts'.set i .gone) with
          | nx t =>
            rw [qs] at k
            intro F2 M2 H2 σ2 s2 st2 p2
            exact k F2 M2 H2 (σ2.set i none) (s1.trans s2) st2.gone (pin2 p2)
          | bk t =>
            rw [qs] at k
            intro F2 M2 H2 σ2 s2 st2 p2
            exact k F2 M2 H2 (σ2.set i none) (s1.trans s2) st2.gone (pin2 p2)
          | ct t =>
            rw [qs] at k
            intro F2 M2 H2 σ2 s2 st2 p2
            exact k F2 M2 H2 (σ2.set i none) (s1.trans s2) st2.gone (pin2 p2)
          | rt v t =>
            rw [qs] at k
            intro F2 Mv M2 H2 σ2 v2 s2 r2 st2 dj p2
            exact k F2 Mv M2 H2 σ2 v2 (s1.trans s2) r2 st2 dj (pin3 p2)
          | ex c t => rw [qs] at k; exact k.elim
          | bad => rw [qs] at k; exact k.elim
        · rw [if_neg hil2] at k; exact k.elim
      · subst hb0
        rw [qc] at k
        exact k F1 M1 H1 σ1 C s1 st1 p1 he
  | nx t => rw [q] at k; exact k
  | bk t => rw [q] at k; exact k
  | ct t => rw [q] at k; exact k
  | rt v t => rw [q] at k; exact k
  | bad => rw [q] at k; exact k
theorem ps_tryO (hs : X.stack = X.env :: X.outer) (hfr : X.env.frame = some X.env.locals) (hg : Gl X y) (hd : (y == ("__debug__" : Str)) = false) (hC : CatT X.K X.mg y cat) (tk : Takes X W)
    (hb : ∀ (W' : WX) (pn : List (Addr × Obj)) (xe : Value → Shared → Prop), Takes (X.tr pn xe) W' → PassesOwn (model X.prog X.w) X.A X.env xe → PSs (X.tr pn xe) body (tS (gx X) W' bs m))
    (hsu : ∀ (e : Str) (a : Addr) (oe : Obj) (C : Addr) (pn : List (Addr × Obj)), X.mg e = some (.ref C) → Zc (.ref C) none oe → (∃ vs, oe.data = .fields vs) → PSs (X.suite a ((a, oe) :: pn)) (b₀ :: suite) (tS (gx X) W0 bs (s e))) :
    PS X (.Try body [.ExceptHandler (some (.Name y np)) none (b₀ :: suite) pos'] [] [] pos) (tS (gx X) W bs (tryO cat m s)) := by
  obtain ⟨D0, hD, hcat⟩ := hC
  refine ps_imp (ps_try_only (c := .ref D0) (Wout := W) (tb := fun W' => tS (gx X) W' bs m) (ts := fun a cls d D σ H => ∃ e C, X.mg e = some (.ref C) ∧ cls = .ref C ∧ d = none ∧ tS (gx X) W0 bs (s e) D σ H) hs hfr ⟨hg, hd, .inl hD⟩ tk hb
    (fun a oe cls d pn hz hf => ⟨fun pins s1 σ H D I ⟨e, C, he, hcl, hdd, q⟩ => by
      subst hcl hdd
      exact (hsu e a oe C pn he hz hf).run pins s1 σ H D I q⟩)) fun D σ H ⟨F, Mm, G, ts, sa, k⟩ => ?_
  refine ⟨F, Mm, G, ts, sa, ?_⟩
  unfold tryO at k
  cases q : m ts with
  | ex e ts' =>
    rw [q] at k
    dsimp only at k
    intro F1 M1 H1 σ1 C s1 st1 p1 he
    cases qc : cat e with
    | none => rw [qc] at k; exact k.elim
    | some b =>
      refine ⟨b, hcat e b C qc he, fun hb1 a ha => ?_, fun hb0 => ?_⟩
      · subst hb1
        rw [qc] at k
        dsimp only at k
        refine ⟨e, C, he, rfl, rfl, F1, M1, G, ts', st1, ?_⟩
        cases qs : s e ts' with
        | ex c t => rw [qs] at k; exact k.elim
        | nx t => rw [qs] at k; exact KS.mono (g := gx X) (W := W0) (r := .nx t) k s1 p1
        | bk t => rw [qs] at k; exact KS.mono (g := gx X) (W := W0) (r := .bk t) k s1 p1
        | ct t => rw [qs] at k; exact KS.mono (g := gx X) (W := W0) (r := .ct t) k s1 p1
        | rt v t => rw [qs] at k; exact KS.mono (g := gx X) (W := W0) (r := .rt v t) k s1 p1
        | bad => rw [qs] at k; exact k.elim
      · subst hb0
        rw [qc] at k
        exact k F1 M1 H1 σ1 C s1 st1 p1 he
  | nx t => rw [q] at k; exact k
  | bk t => rw [q] at k; exact k
  | ct t => rw [q] at k; exact k
  | rt v t => rw [q] at k; exact k
  | bad => rw [q] at k; exact k
end
/-! running -/
def RS.tryA (r : RS) (i : Nat) (cat : Str → Option Bool) (s : Str → S) : RS := match r with
  | .ex e ts' => (match cat e with
    | some true => if i < ts'.length then fixT i (s e (ts'.set i .gone)) else .bad
    | some false => .ex e ts'
    | none => .bad)
  | r => r
def RS.tryO (r : RS) (cat : Str → Option Bool) (s : Str → S) : RS := match r with
  | .ex e ts' => (match cat e with
    | some true => noEx (s e ts')
    | some false => .ex e ts'
    | none => .bad)
  | r => r
@[simp] theorem tryA_ap (i cat m s ts) : tryA i cat m s ts = (m ts).tryA i cat s := by
  unfold tryA RS.tryA
  cases m ts <;> rfl
@[simp] theorem tryO_ap (cat m s ts) : tryO cat m s ts = (m ts).tryO cat s := by
  unfold tryO RS.tryO
  cases m ts <;> rfl
@[simp] theorem tryA_nx (ts i cat s) : RS.tryA (.nx ts) i cat s = .nx ts := rfl
@[simp] theorem tryA_rt (t ts i cat s) : RS.tryA (.rt t ts) i cat s = .rt t ts := rfl
@[simp] theorem tryO_nx (ts cat s) : RS.tryO (.nx ts) cat s = .nx ts := rfl
@[simp] theorem tryO_rt (t ts cat s) : RS.tryO (.rt t ts) cat s = .rt t ts := rfl
theorem tryA_ex {e ts i cat s} (h : cat e = some true) (hi : i < ts.length) : RS.tryA (.ex e ts) i cat s = fixT i (s e (ts.set i .gone)) := by
  unfold RS.tryA
  dsimp only
  rw [h]
  dsimp only
  rw [if_pos hi]
theorem tryO_ex {e ts cat s} (h : cat e = some true) : RS.tryO (.ex e ts) cat s = noEx (s e ts) := by
  unfold RS.tryO
  dsimp only
  rw [h]
@[simp] theorem fixT_nx (i t) : fixT i (.nx t) = .nx (t.set i .gone) := rfl
@[simp] theorem fixT_rt (i v t) : fixT i (.rt v t) = .rt v t := rfl
@[simp] theorem noEx_nx (t) : noEx (.nx t) = .nx t := rfl
@[simp] theorem noEx_rt (v t) : noEx (.rt v t) = .rt v t := rfl
@[simp] theorem bySome_some (b s) : bySome (some b) s = s b := rfl
/-! tables -/
inductive CatL (K : PySem.W.Frag) (mg : Str → Option Value) (D : Addr) : List (Str × Bool) → Prop
  | nil : CatL K mg D []
  | cons {x : Str} {b : Bool} {C : Addr} {l : List (Str × Bool)} : mg x = some (.ref C) → PySem.W.exmOne K (.ref C) (.ref D) = some b → CatL K mg D l → CatL K mg D ((x, b) :: l)
theorem CatL.find {K : PySem.W.Frag} {mg : Str → Option Value} {D : Addr} : ∀ {l : List (Str × Bool)}, CatL K mg D l → ∀ e b C, l.lookup e = some b → mg e = some (.ref C) → PySem.W.exmOne K (.ref C) (.ref D) = some b
  | _, .nil, e, b, C, h, _ => by simp at h
  | _, .cons (x := x) hm hx r, e, b, C, h, hC => by
    rw [List.lookup_cons] at h
    cases q : e == x with
    | true =>
      rw [q] at h
      have ex : e = x := beq_iff_eq.mp q
      subst ex
      rw [hm] at hC
      cases hC
      cases h
      exact hx
    | false => rw [q] at h; exact r.find e b C h hC
theorem catT_of {K : PySem.W.Frag} {mg : Str → Option Value} {y : Str} {D : Addr} {l : List (Str × Bool)} (h : mg y = some (.ref D)) (t : CatL K mg D l) : CatT K mg y (fun e => l.lookup e) := ⟨D, h, fun e b C => t.find e b C⟩
inductive IsL (K : PySem.W.Frag) (mg : Str → Option Value) (D : Addr) : List (Str × Bool) → Prop
  | nil : IsL K mg D []
  | cons {x : Str} {b : Bool} {C : Addr} {l : List (Str × Bool)} : mg x = some (.ref C) → PySem.W.kitOne K (.ref C) (.ref D) = some b → ExcC K C → IsL K mg D l → IsL K mg D ((x, b) :: l)
theorem IsL.find {K : PySem.W.Frag} {mg : Str → Option Value} {D : Addr} : ∀ {l : List (Str × Bool)}, IsL K mg D l → ∀ e b C, l.lookup e = some b → mg e = some (.ref C) → PySem.W.kitOne K (.ref C) (.ref D) = some b ∧ ExcC K C
  | _, .nil, e, b, C, h, _ => by simp at h
  | _, .cons (x := x) hm hx E r, e, b, C, h, hC => by
    rw [List.lookup_cons] at h
    cases q : e == x with
    | true =>
      rw [q] at h
      have ex : e = x := beq_iff_eq.mp q
      subst ex
      rw [hm] at hC
      cases hC
      cases h
      exact ⟨hx, E⟩
    | false => rw [q] at h; exact r.find e b C h hC
theorem isT_of {K : PySem.W.Frag} {mg : Str → Option Value} {y : Str} {D : Addr} {l : List (Str × Bool)} (h : mg y = some (.ref D)) (t : IsL K mg D l) : IsT K mg y (fun e => l.lookup e) := ⟨D, h, fun e b C => t.find e b C⟩
/-! what isinstance of the caught tells, put together -/
def KE (X : Cx) (ex : Expr) (i : Nat) (a : Addr) (o : Option Bool) : Prop := ∀ b, o = some b → PE X ex (tKn i a (.bl b))
def oNot (o : Option Bool) : Option Bool := o.map fun b => !b
def oAnd (o q : Option Bool) : Option Bool := match o, q with | some a, some b => some (a && b) | _, _ => none
def oOr (o q : Option Bool) : Option Bool := match o, q with | some a, some b => some (a || b) | _, _ => none
section
variable {X : Cx} {W : WX} {bs : List Nat} {pos p p2 pos' np : Pos} {i : Nat} {a : Addr} {o q : Option Bool} {ex fx : Expr}
theorem ke_is {n y : Str} {C : Addr} {oe : Obj} {pn : List (Addr × Obj)} {is : Str → Option Bool} {e : Str} (I : IsT X.K X.mg y is) (he : X.mg e = some (.ref C)) (hz : Zc (.ref C) none oe) (hf : ∃ vs, oe.data = .fields vs)
    (hm : X.mg "isinstance" = none) (hg : Gl X "isinstance") (hgy : Gl X y) (hdy : (y == ("__debug__" : Str)) = false) (hN : X.N[i]? = some n) (hv : Vis X.env.scope n) (hd : (n == ("__debug__" : Str)) = false) (hcd : (n == ("__classdict__" : Str)) = false) :
    KE (X.suite a ((a, oe) :: pn)) (.Call (.Name "isinstance" p) [.Name n p2, .Name y np] [] pos) i a (is e) := fun b hb => k_isE I he hb hz hf hm hg hgy hdy hN hv hd hcd
theorem ke_not (h : KE X ex i a o) : KE X (.UnaryOp .Not ex pos) i a (oNot o) := fun b hb => by
  cases o with
  | none => cases hb
  | some c => cases hb; exact k_not (h c rfl)
theorem ke_and (h : KE X ex i a o) (h2 : KE X (.BoolOp .And [fx] pos) i a q) : KE X (.BoolOp .And [ex, fx] pos) i a (oAnd o q) := fun b hb => by
  cases o with
  | none => cases hb
  | some c => cases q with
    | none => cases hb
    | some d => cases hb; exact k_and (h c rfl) (h2 d rfl)
theorem ke_or (h : KE X ex i a o) (h2 : KE X (.BoolOp .Or [fx] pos) i a q) : KE X (.BoolOp .Or [ex, fx] pos) i a (oOr o q) := fun b hb => by
  cases o with
  | none => cases hb
  | some c => cases q with
    | none => cases hb
    | some d => cases hb; exact k_or (h c rfl) (h2 d rfl)
theorem ke_one {op : BoolOp} (h : KE X ex i a o) : KE X (.BoolOp op [ex] pos) i a o := fun b hb => k_one (h b hb)
theorem ps_setKE {j : Nat} {x : Str} (h : KE X ex i a o) (hN : X.N.Nodup) (hi : X.N[j]? = some x) (hx : Loc X.env.scope x) (hs : swapsWith ex (some (.Name x pos')) pos.line X.env = pure false)
    (hf : X.fn x = true ∨ X.env.scope.names.lookup x = some .local) (hb : j ∉ bs) : PS X (.Assign [.Name x pos'] ex pos) (tX i a (tS (gx X) W bs (bySome o fun b => setS j (kT (.bl b))))) := by
  cases o with
  | none => exact ps_X ps_badS
  | some b => exact ps_setK (h b rfl) hN hi hx hs hf hb
end
theorem kit_ref {K : PySem.W.Frag} {C D : Addr} {b : Bool} (hdct : PySem.W.hasDictIn K D = true) (ht : PySem.W.typeIn K (.ref D) = some (.type "type")) (h4 : PySem.W.subIn K (.ref C) (.ref D) = some b) (hs : PySem.W.subIn K (.ref D) (.ref D) = some true) : PySem.W.kitOne K (.ref C) (.ref D) = some b := by
  obtain ⟨cd, hc, _⟩ := PySem.W.any_some hdct
  have e2 : ((PySem.W.clsIn K D).isSome && PySem.W.typeIn K (.ref D) == some (.type "type")) = true := by rw [hc, ht] <;> rfl
  show (if ((Value.ref C) == (Value.ref D)) = true then some true else (if ((PySem.W.clsIn K D).isSome && PySem.W.typeIn K (.ref D) == some (.type "type")) = true then PySem.W.subIn K (.ref C) (.ref D) else none)) = some b
  by_cases h : ((Value.ref C) == (Value.ref D)) = true
  · rw [if_pos h]
    have e : C = D := by have := eq_of_beq h; cases this; rfl
    subst e
    rw [hs] at h4
    exact h4
  · rw [if_neg h, if_pos e2]
    exact h4
end Ar
/-! ArY: texts: walked, joined, searched. -/
namespace Ar
open PySem PySem.Spec PyProof.Rows L2
def signs (s : Str) : List D := s.cps.toList.map fun c => D.str ⟨#[c]⟩
def signsOf : D → Option (List D)
  | .str s => some (signs s)
  | _ => none
theorem src_str {g : Gx} {F1 : Hp} (s : Str) : Src g F1 (Its s) (signs s) where
  go := fun i F Mm G H σ ts _ st hi => by
    show i < s.cps.size
    unfold signs at hi
    simpa using hi
  stop := fun i F Mm G H σ ts _ st hi => by
    show s.cps.size ≤ i
    unfold signs at hi
    have : i = s.cps.size := by simpa using hi
    omega
  yld := fun i d F Mm G H σ ts x H' _ st e h => by
    obtain ⟨rfl, c, hc, rfl⟩ := h
    unfold signs at e
    rw [List.getElem?_map, Array.getElem?_toList, hc] at e
    cases e
    exact ⟨F, Same.refl _, .str _, st⟩
section
variable {X : Cx} {W : WX} {tg e o : Expr} {pos p apos cpos : Pos} {m ma mb : M D}
theorem i_str (h : PE X e (tZ (gx X) W m)) : PI X tg e (tI (gx X) W (itM signsOf m)) :=
  pi_imp (pi_str h) fun σ H Rr ⟨F, Mm, G, ts, st, k⟩ => by
    unfold itM at k
    refine tZ_then (K := KI (gx X) W F G σ Rr) st id (fun _ _ z => z) k fun d ts1 _ k1 F1 M1 H1 v s1 r1 st1 => ?_
    cases r1 with
    | str s => exact ⟨s, rfl, k1 F1 M1 H1 _ s1 st1 (src_str s)⟩
    | _ => exact k1.elim
/-! 'a'.find(b), 'a'.join(l) -/
def oFind (x y : D) : Option T := match x, y with
  | .str a, .str b => some (.z (.int (Txt.find a b)))
  | _, _ => none
def strsD : List D → Option (List Str)
  | [] => some []
  | .str s :: r => (match strsD r with | some l => some (s :: l) | none => none)
  | _ :: _ => none
theorem strs_eq : ∀ {ds : List D} {l : List Str}, strsD ds = some l → ds = l.map D.str
  | [], l, e => by cases e; rfl
  | .str s :: r, l, e => by
    rw [strsD] at e
    cases q : strsD r with
    | none => rw [q] at e; cases e
    | some k => rw [q] at e; cases e; rw [strs_eq q]; rfl
  | .non :: _, _, e => by cases e
  | .bl _ :: _, _, e => by cases e
  | .int _ :: _, _, e => by cases e
  | .lst _ :: _, _, e => by cases e
  | .tup _ :: _, _, e => by cases e
  | .dk _ :: _, _, e => by cases e
  | .dt _ :: _, _, e => by cases e
  | .st _ :: _, _, e => by cases e
  | .scr _ :: _, _, e => by cases e
  | .fn _ :: _, _, e => by cases e
def oJoin (x y : D) : Option T := match x, y with
  | .str a, .lst l => (match strsD l with
    | some ys => if (ys.map (·.length)).sum + ys.length * a.length ≤ 16777216 then some (.z (.str (Txt.join a ys))) else none
    | none => none)
  | _, _ => none
def isStr : D → Bool
  | .str _ => true
  | _ => false
def recvS (m : M D) : M D := m >>= fun d => if isStr d = true then M.ret d else stop
theorem recv_then {m : M D} {f : D → M T} {F Mm G H : Hp} {σ : L2.St} {ts : List T} {Q : VK} {Q' : VK} (st : Sta (gx X) F Mm G H σ ts) (k : KD (gx X) W F G σ Q ((recvS m >>= f) ts))
    (go : ∀ a ts1, KD (gx X) W F G σ Q (f (.str a) ts1) → ∀ F' M' H', Same F F' → Sta (gx X) F' M' G H' σ ts1 → Q' (.str a) H') : tZ (gx X) W m σ H Q' := by
  refine ⟨F, Mm, G, ts, st, ?_⟩
  have e0 : (recvS m >>= f) ts = (m >>= fun d => (if isStr d = true then M.ret d else stop) >>= f) ts := by
    show M.andThen (M.andThen m _) f ts = M.andThen m _ ts
    unfold M.andThen
    cases m ts <;> rfl
  rw [e0] at k
  cases q : m ts with
  | bad => rw [bind_bad q] at k; exact k
  | ex c ts' => rw [bind_ex q] at k; exact k
  | ok d ts' =>
    rw [bind_ok q] at k
    cases d with
    | str a =>
      intro F' M' H' v s r st1
      cases r
      exact go a ts' k F' M' H' s st1
    | _ => exact k.elim
theorem c_find (ho : PE X o (tZ (gx X) W ma)) (he : PE X e (tV (gx X) W mb)) (hbase : attributeBase o "find" X.env (eval o X.env) = eval o X.env) (n : nst e = true) (hl : (apos.endLine == cpos.line) = true) :
    PE X (.Call (.Attribute o "find" apos) [e] [] cpos) (tD (gx X) W (binZ oFind (recvS ma) mb)) :=
  pe_imp (pe_bm PySem.F.plainAttrs_str PySem.F.slot_str_find PySem.F.type_str_find mt_find ho (pa_cons he pa_nil (star_of n _ _)) hbase (few1 n _ _) hl (star_of n _ _) rfl) fun σ H Q ⟨F, Mm, G, ts, st, k⟩ => by
    unfold binZ at k
    refine recv_then st k fun a ts1 k1 F1 M1 H1 s1 st1 => ⟨rfl, ?_⟩
    refine tV_then (K := KD (gx X) W F1 G σ Q) st1 id (fun _ _ z => z) (KD.mono s1 k1) fun y ts2 _ k2 F2 M2 H2 v2 s2 r2 st2 => ?_
    obtain ⟨t, q, out⟩ := KD.opt st2 (KD.mono s2 k2)
    cases y with
    | str b =>
      cases q
      cases r2 with
      | r r2 => cases r2; exact ⟨a, b, rfl, rfl, out.val (.int _)⟩
    | _ => cases q
theorem c_join (ho : PE X o (tZ (gx X) W ma)) (he : PE X e (tV (gx X) W mb)) (hbase : attributeBase o "join" X.env (eval o X.env) = eval o X.env) (n : nst e = true) (hl : (apos.endLine == cpos.line) = true) :
    PE X (.Call (.Attribute o "join" apos) [e] [] cpos) (tD (gx X) W (binZ oJoin (recvS ma) mb)) :=
  pe_imp (pe_bm PySem.F.plainAttrs_str PySem.F.slot_str_join PySem.F.type_str_join mt_join ho (pa_cons he pa_nil (star_of n _ _)) hbase (few1 n _ _) hl (star_of n _ _) rfl) fun σ H Q ⟨F, Mm, G, ts, st, k⟩ => by
    unfold binZ at k
    refine recv_then st k fun a ts1 k1 F1 M1 H1 s1 st1 => ⟨rfl, ?_⟩
    refine tV_then (K := KD (gx X) W F1 G σ Q) st1 id (fun _ _ z => z) (KD.mono s1 k1) fun y ts2 _ k2 F2 M2 H2 v2 s2 r2 st2 => ?_
    obtain ⟨t, q, out⟩ := KD.opt st2 (KD.mono s2 k2)
    unfold oJoin at q
    cases y with
    | lst l =>
      dsimp only at q
      cases qs : strsD l with
      | none => rw [qs] at q; cases q
      | some ys =>
        rw [qs] at q
        dsimp only at q
        split at q
        · rename_i hb
          cases q
          obtain ⟨p, xs, rfl, hp, rp⟩ := r2.lst st2.hc.fh
          rw [strs_eq qs] at rp
          rw [rp.strs_inv] at hp
          exact ⟨a, p, ys, rfl, rfl, .inl (.of hp), hb, out.val (.str _)⟩
        · cases q
    | _ => cases q
end
@[simp] theorem recvS_ap (m ts) : recvS m ts = (m ts).and fun d ts1 => if isStr d = true then .ok d ts1 else .bad := by
  unfold recvS; rw [bind_ap]; congr 1; funext d ts1; split <;> rfl
@[simp] theorem isStr_str (s) : isStr (.str s) = true := rfl
@[simp] theorem signsOf_str (s) : signsOf (.str s) = some (signs s) := rfl
@[simp] theorem oFind_str (a b) : oFind (.str a) (.str b) = some (.z (.int (Txt.find a b))) := rfl
/-! texts as data -/
def sD (l : List Str) : List D := l.map D.str
def sT (l : List Str) : List T := l.map fun s => T.z (D.str s)
@[simp] theorem strsD_sD (l) : strsD (sD l) = some l := by
  induction l with
  | nil => rfl
  | cons x l ih => show strsD (.str x :: sD l) = _; rw [strsD, ih]
@[simp] theorem sD_sT (l) : (sD l).map T.z = sT l := by unfold sD sT; rw [List.map_map]; rfl
@[simp] theorem fzs_sT (l) : T.fzs (sT l) = some (sD l) := by rw [← sD_sT, fzs_z]
@[simp] theorem vwz_sT (l) : vwz (sT l) = some (sD l) := by rw [← sD_sT, vwz_of]
@[simp] theorem sT_length (l) : (sT l).length = l.length := List.length_map _
@[simp] theorem sT_app1 (l s) : sT l ++ [.z (.str s)] = sT (l ++ [s]) := by unfold sT; simp
@[simp] theorem oJoin_sD (a l) : oJoin (.str a) (.lst (sD l)) = if (l.map (·.length)).sum + l.length * a.length ≤ 16777216 then some (.z (.str (Txt.join a l))) else none := by
  unfold oJoin
  simp
@[simp] theorem oLen_str (s) : oLen (.str s) = if s.length ≤ lim then some (.z (.int s.length)) else none := rfl
theorem oIx_str (s) (i) : oIx (.str s) (.int i) = if s.length ≤ lim then (atI s.cps.toList i).map fun c => .z (.str ⟨#[c]⟩) else none := rfl
/-! texts by their signs -/
def tx (l : List Nat) : Str := ⟨l.toArray⟩
@[simp] theorem tx_length (l) : (tx l).length = l.length := by show l.toArray.size = _; simp
@[simp] theorem tx_cps (l) : (tx l).cps.toList = l := by simp [tx]
theorem tx_of (s : Str) : tx s.cps.toList = s := by cases s; simp [tx]
theorem tx_inj {a b : List Nat} (h : tx a = tx b) : a = b := by have := congrArg (fun s => s.cps.toList) h; simpa using this
@[simp] theorem tx_app (a b) : tx a ++ tx b = tx (a ++ b) := by
  show Str.append (tx a) (tx b) = _
  unfold Str.append tx
  simp
@[simp] theorem signs_tx (l) : signs (tx l) = l.map fun c => D.str (tx [c]) := by unfold signs; rw [tx_cps]; rfl
theorem join_tx1 (l : List Nat) : Txt.join (tx []) (l.map fun c => tx [c]) = tx l := by
  show Builtin.Str.glued _ _ = _
  rw [StrLaws.glued_eq_join]
  induction l with
  | nil => rfl
  | cons c l ih =>
    cases l with
    | nil => rfl
    | cons e l =>
      show tx [c] ++ tx [] ++ Str.join (tx []) ((e :: l).map fun c => tx [c]) = _
      rw [ih]; simp
def chrOk (l : List Nat) : Bool := l.all (· < 0x110000)
theorem okq_tx {l : List Nat} (h : chrOk l = true) : okq (.str (tx l)) = true := by
  have e : PyData.strOk (tx l) = true := by unfold PyData.strOk tx; simpa [chrOk] using h
  show SeqAt.shaped (PyData.str (tx l)) = true
  unfold SeqAt.shaped
  rw [Bool.and_eq_true]
  exact ⟨by simpa [PyData.canLay0] using e, by rfl⟩
@[simp] theorem eqd_tx (a b) : eqd (.str (tx a)) (.str (tx b)) = decide (a = b) := by
  show (tx a == tx b) = _
  by_cases h : a = b
  · subst h; simp
  · have : tx a ≠ tx b := fun e => h (tx_inj e)
    simp [h, this]
theorem oEq_tx {a b : List Nat} (h1 : chrOk a = true) (h2 : chrOk b = true) : oEq (.str (tx a)) (.str (tx b)) = some (.z (.bl (decide (a = b)))) := by
  unfold oEq
  rw [if_pos ⟨okq_tx h1, okq_tx h2⟩, eqd_tx]
theorem oIx_tx (l : List Nat) (i : Int) (h : l.length ≤ lim) : oIx (.str (tx l)) (.int i) = (atI l i).map fun c => .z (.str (tx [c])) := by
  rw [oIx_str, tx_length, if_pos h, tx_cps]; rfl
@[simp] theorem oIn_tx1 (c l) : oIn (.str (tx [c])) (.str (tx l)) = some (.z (.bl (decide (c ∈ l)))) := by
  unfold oIn inD; simp
@[simp] theorem oNotIn_tx1 (c l) : oNotIn (.str (tx [c])) (.str (tx l)) = some (.z (.bl (!decide (c ∈ l)))) := by
  unfold oNotIn inD; simp
theorem oSl_tx (l : List Nat) (lo hi) (h : l.length ≤ lim) : oSl (.str (tx l)) lo hi = some (.z (.str (tx (cutD l lo hi)))) := by
  unfold oSl
  dsimp only
  rw [tx_length, if_pos h]
  unfold cutS cutD
  rw [tx_cps, tx_length]
  rfl
end Ar
/-! ArZ: list.index, insert, try with several clauses, range with a step. -/
namespace Ar
open PySem PySem.Spec PyProof.Rows L2
/-! l.index(x) -/
def isLstD : D → Bool
  | .lst _ => true
  | _ => false
def recvL (m : M D) : M D := m >>= fun d => if isLstD d = true then M.ret d else stop
theorem recvL_then {g : Gx} {W : WX} {m : M D} {f : D → M T} {F Mm G H : Hp} {σ : L2.St} {ts : List T} {Q : VK} {Q' : VK} (st : Sta g F Mm G H σ ts) (k : KD g W F G σ Q ((recvL m >>= f) ts))
    (go : ∀ l ts1, KD g W F G σ Q (f (.lst l) ts1) → ∀ F' M' H' a xs, Same F F' → F' a = some (.lst xs) → RpAll g F' xs l → Sta g F' M' G H' σ ts1 → Q' (.ref a) H') : tZ g W m σ H Q' := by
  refine ⟨F, Mm, G, ts, st, ?_⟩
  have e0 : (recvL m >>= f) ts = (m >>= fun d => (if isLstD d = true then M.ret d else stop) >>= f) ts := by
    show M.andThen (M.andThen m _) f ts = M.andThen m _ ts
    unfold M.andThen
    cases m ts <;> rfl
  rw [e0] at k
  cases q : m ts with
  | bad => rw [bind_bad q] at k; exact k
  | ex c ts' => rw [bind_ex q] at k; exact k
  | ok d ts' =>
    rw [bind_ok q] at k
    cases d with
    | lst l =>
      intro F' M' H' v s r st1
      cases r with
      | lst h r => exact go l ts' k F' M' H' _ _ s h r st1
    | _ => exact k.elim
def idxD (y : D) : List D → Option Nat
  | [] => none
  | x :: r => if eqf x y = true then some 0 else (idxD y r).map (· + 1)
def oIndex (x y : D) : Option T := match x with
  | .lst l => if flatD y = true ∧ l.all flatD = true then (idxD y l).map fun (j : Nat) => .z (.int j) else none
  | _ => none
theorem idx_spec {g : Gx} {F : Hp} {u : V} {y : D} (hy : Rp g F u y) (fy : flatD y = true) : ∀ {xs : List V} {l : List D}, RpAll g F xs l → l.all flatD = true → ∀ {j : Nat}, idxD y l = some j →
    ∃ z, xs[j]? = some z ∧ eqV z u = true ∧ ∀ (m : Nat) (z' : V), m < j → xs[m]? = some z' → eqV z' u = false
  | _, _, .nil, _, j, e => by cases e
  | _, _, .cons (v := v) (d := d) h t, f, j, e => by
    rw [List.all_cons, Bool.and_eq_true] at f
    rw [idxD] at e
    have hv := rp_eqf h hy f.1 fy
    split at e
    · rename_i hq
      cases e
      exact ⟨v, rfl, by rw [hv, hq], fun m z' hm => absurd hm (Nat.not_lt_zero _)⟩
    · rename_i hq
      cases q : idxD y _ with
      | none => rw [q] at e; cases e
      | some k =>
        rw [q] at e; cases e
        obtain ⟨z, h1, h2, h3⟩ := idx_spec hy fy t f.2 q
        refine ⟨z, h1, h2, fun m z' hm hz => ?_⟩
        cases m with
        | zero => cases hz; rw [hv]; exact Bool.eq_false_iff.mpr hq
        | succ m => exact h3 m z' (Nat.lt_of_succ_lt_succ hm) hz
section
variable {X : Cx} {W : WX} {e o a1 a2 a3 tg : Expr} {pos p apos cpos : Pos} {m ma mb mc : M D} {i : Nat} {x : Str}
theorem c_index (ho : PE X o (tZ (gx X) W ma)) (he : PE X e (tV (gx X) W mb)) (hbase : attributeBase o "index" X.env (eval o X.env) = eval o X.env) (n : nst e = true) (hl : (apos.endLine == cpos.line) = true) :
    PE X (.Call (.Attribute o "index" apos) [e] [] cpos) (tD (gx X) W (binZ oIndex (recvL ma) mb)) :=
  pe_imp (pe_bm PySem.F.plainAttrs_list PySem.F.slot_list_index PySem.F.type_list_index mt_index ho (pa_cons he pa_nil (star_of n _ _)) hbase (few1 n _ _) hl (star_of n _ _) rfl) fun σ H Q ⟨F, Mm, G, ts, st, k⟩ => by
    unfold binZ at k
    refine recvL_then st k fun l ts1 k1 F1 M1 H1 a xs s1 ha ra st1 => ⟨tyL (g := gx X) (st1.hc.fh _ _ ha), ?_⟩
    refine tV_then (K := KD (gx X) W F1 G σ Q) st1 id (fun _ _ z => z) (KD.mono s1 k1) fun y ts2 _ k2 F2 M2 H2 v2 s2 r2 st2 => ?_
    obtain ⟨t, q, out⟩ := KD.opt st2 (KD.mono s2 k2)
    unfold oIndex at q
    dsimp only at q
    split at q
    · rename_i hf
      cases qi : idxD y l with
      | none => rw [qi] at q; cases q
      | some j =>
        rw [qi] at q; cases q
        have ry : Rp (gx X) F2 v2 y := r2.flat hf.1
        obtain ⟨z, h1, h2, h3⟩ := idx_spec ry hf.1 (ra.mono s2) hf.2 qi
        exact ⟨a, xs, v2, j, z, rfl, rfl, .of (st2.hc.fh _ _ (s2 _ _ ha)), rp_flat ry hf.1, rp_flats (ra.mono s2) hf.2, h1, h2, h3, out.val (.int _)⟩
    · cases q
/-! l.insert(j, y) of an owned list -/
def insM (i : Nat) (mk m : M D) : M T := fun ts => if isL i ts = true then (mk >>= fun d => m >>= fun y ts1 => match d, ts1[i]? with
  | .int j, some (.l xs) => if xs.length < lim ∧ 0 ≤ j ∧ j < 1000000 then .ok (.z .non) (ts1.set i (.l (xs.take j.toNat ++ [.z y] ++ xs.drop j.toNat))) else .bad
  | _, _ => .bad) ts else .bad
theorem ROs.ins {g : Gx} {F : Hp} {v : V} {d : D} (r : Rp g F v d) : ∀ {M : Hp} {vs : List V} {ts : List T} (k : Nat), ROs g F M vs ts → ROs g F M (vs.take k ++ [v] ++ vs.drop k) (ts.take k ++ [.z d] ++ ts.drop k)
  | _, _, _, 0, h => .cons (M1 := em) (.z r) h Same.empty (Same.refl _) Dj.em_l
  | M, _, _, k + 1, .nil => .cons (M1 := em) (M2 := em) (.z r) .nil Same.empty Same.empty Dj.em_l
  | _, _, _, k + 1, .cons h1 h2 h3 h4 h5 => .cons h1 (ROs.ins r k h2) h3 h4 h5
theorem pe_insM (hN : X.N[i]? = some x) (hv : Vis X.env.scope x) (hd : (x == ("__debug__" : Str)) = false) (hcd : (x == ("__classdict__" : Str)) = false) (hk : PE X a1 (tZ (gx X) W ma)) (he : PE X a2 (tZ (gx X) W mb))
    (n1 : nst a1 = true) (n2 : nst a2 = true) (hl : (apos.endLine == cpos.line) = true) :
    PE X (.Call (.Attribute (.Name x p) "insert" apos) [a1, a2] [] cpos) (tD (gx X) W (insM i ma mb)) :=
  pe_imp (pe_bm PySem.F.plainAttrs_list PySem.F.slot_list_insert PySem.F.type_list_insert mt_insert (pe_var hN hv hd hcd) (pa_cons hk (pa_cons he pa_nil (star_of n2 _ _)) (star_of n1 _ _)) rfl (by rw [star_of n1, star_of n2]; rfl) hl (star_of n1 _ _) (by rw [star_of n2]; rfl)) fun σ H Q ⟨F, Mm, G, ts, st, k⟩ => by
    unfold insM at k
    by_cases hi : isL i ts = true
    · rw [if_pos hi] at k
      obtain ⟨xs0, e0⟩ := isL_eq hi
      obtain ⟨a, ws0, Mc0, e1, hH, _⟩ := Sta.lst (Mv := em) st Dj.em_l e0
      refine ⟨.ref a, e1, tyL (g := gx X) hH, ?_⟩
      refine tZ_then (K := KD (gx X) W F G σ Q) st id (fun _ _ z => z) k fun d ts0 _ k0 F0 M0 H0 v0 s0 r0 st0 => ?_
      refine tZ_then (K := KD (gx X) W F0 G σ Q) st0 id (fun _ _ z => z) (KD.mono s0 k0) fun y ts1 _ k1 F1 M1 H1 v s1 r st1 => ?_
      cases d with
      | int j =>
        cases r0
        cases q : ts1[i]? with
        | none => simp only [q] at k1; exact k1.elim
        | some u =>
          cases u with
          | l xs =>
            simp only [q] at k1
            by_cases hz : xs.length < lim ∧ 0 ≤ j ∧ j < 1000000
            · rw [if_pos hz] at k1
              obtain ⟨a', ws, Mc, e2, hH1, rs, dc, fin⟩ := Sta.lst (Mv := em) (G := G) st1 Dj.em_l q
              rw [e1] at e2; cases e2
              obtain ⟨M', st2, dj2⟩ := fin (ws.take j.toNat ++ [v] ++ ws.drop j.toNat) (xs.take j.toNat ++ [.z y] ++ xs.drop j.toNat) Mc em (rs.ins r j.toNat) jn_l Same.empty Dj.em_r
              exact ⟨a, ws, j, v, rfl, rfl, hH1, by rw [rs.length]; exact lim_lt' hz.1, hz.2.1, by omega, k1 F1 em M' _ _ s1 (.z .non) st2 Dj.em_l⟩
            · rw [if_neg hz] at k1; exact k1.elim
          | _ => simp only [q] at k1; exact k1.elim
      | _ => exact k1.elim
    · rw [if_neg hi] at k; exact k.elim
/-! range(i, j, c) -/
def cnt3 (i j c : Int) : Nat := (PySem.Builtin.Range.rangeSize i j c).toNat
def stp3 (i c : Int) (n : Nat) : List D := (List.range n).map fun (k : Nat) => D.int (i + k * c)
def Rg3 (i j c : Int) : Prop := 0 ≤ i ∧ i < 1000000 ∧ 0 ≤ j ∧ j < 1000000 ∧ 0 < c ∧ c < 1000000
instance (i j c : Int) : Decidable (Rg3 i j c) := by unfold Rg3; infer_instance
def rng3 (i j c : D) : Option (List D) := match i, j, c with
  | .int i, .int j, .int c => if Rg3 i j c then some (stp3 i c (cnt3 i j c)) else none
  | _, _, _ => none
def it3M (f : D → D → D → Option (List D)) (m n l : M D) : M (List D) := m >>= fun d => n >>= fun e => l >>= fun c => opt (f d e c)
theorem src_rng3 {g : Gx} {F1 : Hp} {lo c : Int} {n : Nat} : Src g F1 (Itc lo c n) (stp3 lo c n) where
  go := fun i F Mm G H σ ts s st hi => by
    have : i < n := by simpa [stp3] using hi
    exact this
  stop := fun i F Mm G H σ ts s st hi => by
    show n ≤ i
    rw [hi]; simp [stp3]
  yld := fun i d F Mm G H σ ts x H' s st hd ⟨e, y⟩ => by
    subst e y
    unfold stp3 at hd
    rw [List.getElem?_map] at hd
    cases q : (List.range n)[i]? with
    | none => rw [q] at hd; cases hd
    | some k =>
      rw [q] at hd; cases hd
      have : k = i := by
        have := List.getElem?_eq_some_iff.mp q
        obtain ⟨h1, h2⟩ := this
        simpa using h2.symm
      subst this
      exact ⟨F, Same.refl _, .int _, st⟩
theorem rgC_of {i j c : Int} (h : Rg3 i j c) : RgC i j c (cnt3 i j c) := by
  obtain ⟨h1, h2, h3, h4, h5, h6⟩ := h
  have hs : 0 ≤ Builtin.Range.rangeSize i j c ∧ Builtin.Range.rangeSize i j c ≤ 1000000 := by
    unfold Builtin.Range.rangeSize
    rw [if_pos (by omega)]
    split
    · have e1 : 0 ≤ (j - i - 1) / c := Int.ediv_nonneg (by omega) (by omega)
      have e2 : (j - i - 1) / c ≤ j - i - 1 := Int.ediv_le_self _ (by omega)
      omega
    · omega
  refine ⟨by omega, by omega, ?_, ?_⟩
  · unfold Builtin.Range.small Builtin.Range.rangeFitsLong
    simp only [Bool.and_eq_true, Bool.or_eq_true, decide_eq_true_eq, beq_iff_eq]
    rw [if_pos (by omega)]
    simp only [Bool.and_eq_true, decide_eq_true_eq]
    omega
  · unfold cnt3
    omega
theorem i_rng3 (hm : X.mg "range" = none) (hg : Gl X "range") (h1 : PE X a1 (tZ (gx X) W ma)) (h2 : PE X a2 (tZ (gx X) W mb)) (h3 : PE X a3 (tZ (gx X) W mc)) (n1 : nst a1 = true) (n2 : nst a2 = true) (n3 : nst a3 = true) :
    PI X tg (.Call (.Name "range" p) [a1, a2, a3] [] pos) (tI (gx X) W (it3M rng3 ma mb mc)) :=
  pi_imp (pi_range3 hg hm (pa_cons h1 (pa_cons h2 (pa_cons h3 pa_nil (star_of n3 _ _)) (star_of n2 _ _)) (star_of n1 _ _)) (by rw [star_of n1, star_of n2, star_of n3]) (by rw [star_of n2, star_of n3]; rfl)) fun σ H Rr ⟨F, Mm, G, ts, st, k⟩ => by
    unfold it3M at k
    have mono : ∀ {F F1 : Hp} {r : R (List D)}, Same F F1 → KI (gx X) W F G σ Rr r → KI (gx X) W F1 G σ Rr r := by
      intro F F1 r s1 k1
      cases r with
      | bad => exact k1
      | ok ds ts' => exact fun F' M' H' J s => k1 F' M' H' J (s1.trans s)
      | ex c ts' => exact KX.mono s1 k1
    refine tZ_then (K := KI (gx X) W F G σ Rr) st id (fun _ _ z => z) k fun d1 ts1 _ k1 F1 M1 H1 v1 s1 r1 st1 => ?_
    refine tZ_then (K := KI (gx X) W F1 G σ Rr) st1 id (fun _ _ z => z) (mono s1 k1) fun d2 ts2 _ k2 F2 M2 H2 v2 s2 r2 st2 => ?_
    refine tZ_then (K := KI (gx X) W F2 G σ Rr) st2 id (fun _ _ z => z) (mono s2 k2) fun d3 ts3 _ k3 F3 M3 H3 v3 s3 r3 st3 => ?_
    unfold rng3 at k3
    cases d1 with
    | int i => cases d2 with
      | int j => cases d3 with
        | int c =>
          cases r1; cases r2; cases r3
          dsimp only at k3
          by_cases hb : Rg3 i j c
          · rw [if_pos hb] at k3
            exact ⟨i, j, c, cnt3 i j c, rfl, rgC_of hb, k3 F3 M3 H3 _ s3 st3 src_rng3⟩
          · rw [if_neg hb] at k3; exact k3.elim
        | _ => exact k3.elim
      | _ => exact k3.elim
    | _ => exact k3.elim
end
/-! try with several clauses -/
def tryN : List ((Str → Option Bool) × (Str → S)) → Str → List T → RS
  | [], e, ts => .ex e ts
  | (cat, s) :: r, e, ts => match cat e with
    | some true => noEx (s e ts)
    | some false => tryN r e ts
    | none => .bad
def tryL (l : List ((Str → Option Bool) × (Str → S))) (m : S) : S := fun ts => match m ts with
  | .ex e ts' => tryN l e ts'
  | r => r
inductive HdsM (X : Cx) (bs : List Nat) : List ExceptHandler → List ((Str → Option Bool) × (Str → S)) → Prop
  | nil : HdsM X bs [] []
  | cons {y : Str} {cat : Str → Option Bool} {s : Str → S} {b₀ : Stmt} {suite : List Stmt} {np pos' : Pos} {hds : List ExceptHandler} {l : List ((Str → Option Bool) × (Str → S))} (hg : Gl X y) (hd : (y == ("__debug__" : Str)) = false) (hC : CatT X.K X.mg y cat)
      (hsu : ∀ (e : Str) (a : Addr) (oe : Obj) (C : Addr) (pn : List (Addr × Obj)), X.mg e = some (.ref C) → Zc (.ref C) none oe → (∃ vs, oe.data = .fields vs) → PSs (X.suite a ((a, oe) :: pn)) (b₀ :: suite) (tS (gx X) W0 bs (s e)))
      (r : HdsM X bs hds l) : HdsM X bs (.ExceptHandler (some (.Name y np)) none (b₀ :: suite) pos' :: hds) ((cat, s) :: l)
section
variable {X : Cx} {W : WX} {bs : List Nat}
theorem HdsM.many : ∀ {hds : List ExceptHandler} {l : List ((Str → Option Bool) × (Str → S))}, HdsM X bs hds l → ∃ lts, HdsOk X hds lts ∧ ∀ {D : Ends} {F G F1 M1 H1 : Hp} {σ σ1 : L2.St} {e : Str} {C : Addr} {ts' : List T},
    KS (gx X) W bs F G σ D (tryN l e ts') → Same F F1 → Sta (gx X) F1 M1 G H1 σ1 ts' → Pin bs σ σ1 → X.mg e = some (.ref C) → wMany X.K W D lts (.ref C) none σ1 H1
  | _, _, .nil => ⟨[], .nil, fun {D F G F1 M1 H1 σ σ1 e C ts'} k s st p he => k F1 M1 H1 σ1 C s st p he⟩
  | _, _, .cons (cat := cat) (s := s) hg hd hC hsu r => by
    obtain ⟨lts, h1, h2⟩ := HdsM.many r
    obtain ⟨D0, hD, hcat⟩ := hC
    refine ⟨(.ref D0, fun a cls d D σ H => ∃ e C, X.mg e = some (.ref C) ∧ cls = .ref C ∧ d = none ∧ tS (gx X) W0 bs (s e) D σ H) :: lts, .cons ⟨hg, hd, .inl hD⟩ (fun a oe cls d pn hz hf => ⟨fun pins s1 σ H D I ⟨e, C, he, hcl, hdd, q⟩ => by
      subst hcl hdd
      exact (hsu e a oe C pn he hz hf).run pins s1 σ H D I q⟩) h1, fun {D F G F1 M1 H1 σ σ1 e C ts'} k s1 st1 p1 he => ?_⟩
    unfold tryN at k
    cases qc : cat e with
    | none => rw [qc] at k; exact k.elim
    | some b =>
      refine ⟨b, hcat e b C qc he, fun hb1 a ha => ?_, fun hb0 => ?_⟩
      · subst hb1
        rw [qc] at k
        dsimp only at k
        refine ⟨e, C, he, rfl, rfl, F1, M1, G, ts', st1, ?_⟩
        cases qs : s e ts' with
        | ex c t => rw [qs] at k; exact k.elim
        | nx t => rw [qs] at k; exact KS.mono (g := gx X) (W := W0) (r := .nx t) k s1 p1
        | bk t => rw [qs] at k; exact KS.mono (g := gx X) (W := W0) (r := .bk t) k s1 p1
        | ct t => rw [qs] at k; exact KS.mono (g := gx X) (W := W0) (r := .ct t) k s1 p1
        | rt v t => rw [qs] at k; exact KS.mono (g := gx X) (W := W0) (r := .rt v t) k s1 p1
        | bad => rw [qs] at k; exact k.elim
      · subst hb0
        rw [qc] at k
        exact h2 k s1 st1 p1 he
theorem ps_tryL {body : List Stmt} {m : S} {h₀ : ExceptHandler} {hds : List ExceptHandler} {l : List ((Str → Option Bool) × (Str → S))} {pos : Pos} (hs : X.stack = X.env :: X.outer) (hfr : X.env.frame = some X.env.locals) (tk : Takes X W)
    (hb : ∀ (W' : WX) (pn : List (Addr × Obj)) (xe : Value → Shared → Prop), Takes (X.tr pn xe) W' → PassesOwn (model X.prog X.w) X.A X.env xe → PSs (X.tr pn xe) body (tS (gx X) W' bs m))
    (hh : HdsM X bs (h₀ :: hds) l) : PS X (.Try body (h₀ :: hds) [] [] pos) (tS (gx X) W bs (tryL l m)) := by
  obtain ⟨lts, h1, h2⟩ := HdsM.many (W := W) hh
  refine ps_imp (ps_try_many (Wout := W) (tb := fun W' => tS (gx X) W' bs m) hs hfr tk hb h1) fun D σ H ⟨F, Mm, G, ts, sa, k⟩ => ?_
  refine ⟨F, Mm, G, ts, sa, ?_⟩
  unfold tryL at k
  cases q : m ts with
  | ex e ts' =>
    rw [q] at k
    dsimp only at k
    intro F1 M1 H1 σ1 C s1 st1 p1 he
    exact h2 k s1 st1 p1 he
  | nx t => rw [q] at k; exact k
  | bk t => rw [q] at k; exact k
  | ct t => rw [q] at k; exact k
  | rt v t => rw [q] at k; exact k
  | bad => rw [q] at k; exact k
end
def RS.tryL (r : RS) (l : List ((Str → Option Bool) × (Str → S))) : RS := match r with
  | .ex e ts' => tryN l e ts'
  | r => r
@[simp] theorem tryL_ap (l m ts) : tryL l m ts = (m ts).tryL l := by
  unfold Ar.tryL RS.tryL
  cases m ts <;> rfl
@[simp] theorem tryL_nx (ts l) : RS.tryL (.nx ts) l = .nx ts := rfl
@[simp] theorem tryL_rt (t ts l) : RS.tryL (.rt t ts) l = .rt t ts := rfl
@[simp] theorem tryL_exx (e ts l) : RS.tryL (.ex e ts) l = tryN l e ts := rfl
theorem tryN_yes {cat : Str → Option Bool} {s r e ts} (h : cat e = some true) : tryN ((cat, s) :: r) e ts = noEx (s e ts) := by rw [tryN, h]
theorem tryN_no {cat : Str → Option Bool} {s r e ts} (h : cat e = some false) : tryN ((cat, s) :: r) e ts = tryN r e ts := by rw [tryN, h]
/-! running -/
def insL (i : Nat) (j : Int) (y : D) (ts : List T) : Option T → R T
  | some (.l xs) => if xs.length < lim ∧ 0 ≤ j ∧ j < 1000000 then .ok (.z .non) (ts.set i (.l (xs.take j.toNat ++ [.z y] ++ xs.drop j.toNat))) else .bad
  | _ => .bad
def insT (i : Nat) (y : D) (ts : List T) : D → R T
  | .int j => insL i j y ts ts[i]?
  | _ => .bad
@[simp] theorem insL_l (i j y ts xs) : insL i j y ts (some (.l xs)) = if xs.length < lim ∧ 0 ≤ j ∧ j < 1000000 then .ok (.z .non) (ts.set i (.l (xs.take j.toNat ++ [.z y] ++ xs.drop j.toNat))) else .bad := rfl
@[simp] theorem insT_int (i y ts j) : insT i y ts (.int j) = insL i j y ts ts[i]? := rfl
theorem isL_O (i : Nat) (ts : List T) : isL i ts = isLO ts[i]? := by
  unfold isL isLO
  cases ts[i]? with
  | none => rfl
  | some t => cases t <;> rfl
@[simp] theorem insM_ap (i mk m ts) : insM i mk m ts = if isLO ts[i]? = true then (mk ts).and fun d ts1 => (m ts1).and fun y ts2 => insT i y ts2 d else .bad := by
  unfold insM
  rw [isL_O]
  congr 1
  rw [bind_ap]
  congr 1
  funext d ts1
  rw [bind_ap]
  congr 1
  funext y ts2
  cases d with
  | int j =>
    show _ = insL i j y ts2 ts2[i]?
    unfold insL
    cases ts2[i]? with
    | none => rfl
    | some t => cases t <;> rfl
  | _ => rfl
@[simp] theorem recvL_ap (m ts) : recvL m ts = (m ts).and fun d ts1 => if isLstD d = true then .ok d ts1 else .bad := by
  unfold recvL; rw [bind_ap]; congr 1; funext d ts1; split <;> rfl
@[simp] theorem isLstD_lst (l) : isLstD (.lst l) = true := rfl
@[simp] theorem it3M_ap (f m n l ts) : it3M f m n l ts = (m ts).and fun d ts1 => (n ts1).and fun e ts2 => (l ts2).and fun c ts3 => opt (f d e c) ts3 := by
  unfold it3M; rw [bind_ap]; congr 1
@[simp] theorem rng3_int (i j c) : rng3 (.int i) (.int j) (.int c) = if Rg3 i j c then some (stp3 i c (cnt3 i j c)) else none := rfl
def augU (i : Nat) (f : Int → Int → Int) (m : M D) (ts : List T) : Option T → RS
  | some (.z (.int a)) => (m ts).andS fun d ts' => match d with
    | .int b => if i < ts'.length then .nx (ts'.set i (.z (.int (f a b)))) else .bad
    | _ => .bad
  | _ => .bad
@[simp] theorem augU_int (i f m ts a) : augU i f m ts (some (.z (.int a))) = (m ts).andS fun d ts' => match d with
    | .int b => if i < ts'.length then .nx (ts'.set i (.z (.int (f a b)))) else .bad
    | _ => .bad := by unfold augU; rfl
@[simp] theorem augS_apU (i f m ts) : augS i f m ts = augU i f m ts ts[i]? := by
  unfold augS augU
  cases ts[i]? with
  | none => rfl
  | some t => cases t with
    | z d => cases d <;> first | rfl | (dsimp only; rw [bindS_ap])
    | _ => rfl
end Ar
/-! ArU: lists of lists of numbers; the last item. -/
namespace Ar
open PySem PySem.Spec PyProof.Rows L2
def lD (l : List (List Int)) : List D := l.map fun x => .lst (nD x)
@[simp] theorem lD_length (l) : (lD l).length = l.length := List.length_map _
theorem lD_nil : lD [] = [] := rfl
theorem lD_cons (a l) : lD (a :: l) = .lst (nD a) :: lD l := rfl
@[simp] theorem lD_append (a b) : lD a ++ lD b = lD (a ++ b) := (List.map_append ..).symm
@[simp] theorem lD_get (l : List (List Int)) (i : Nat) : (lD l)[i]? = (l[i]?).map fun x => D.lst (nD x) := List.getElem?_map ..
theorem atI_m1 {α : Type} (l : List α) (h : l ≠ []) : atI l (-1) = l.getLast? := by
  have hl : 0 < l.length := List.length_pos_iff.mpr h
  unfold atI ixN
  rw [if_neg (by omega)]
  rw [if_pos (by omega)]
  show l[_]? = _
  rw [List.getLast?_eq_getElem?]
  congr 1
  omega
theorem getLast_nD (l : List Int) (h : l ≠ []) : (nD l).getLast? = some (.int (l.getLastD 0)) := by
  unfold nD
  rw [List.getLast?_map, List.getLastD_eq_getLast?]
  cases q : l.getLast? with
  | none => exact absurd (List.getLast?_eq_none_iff.mp q) h
  | some x => rfl
theorem last_nD (l : List Int) (h : l ≠ []) : atI (nD l) (-1) = some (.int (l.getLastD 0)) := by
  have h2 : nD l ≠ [] := fun e => h (List.map_eq_nil_iff.mp e)
  rw [atI_m1 _ h2, getLast_nD l h]
theorem mem_uI {a b x : Int} : x ∈ uI a b ↔ a ≤ x ∧ x < b := by
  unfold uI
  rw [List.mem_map]
  constructor
  · rintro ⟨k, hk, rfl⟩; rw [List.mem_range] at hk; omega
  · rintro ⟨h1, h2⟩
    exact ⟨(x - a).toNat, by rw [List.mem_range]; omega, by omega⟩
theorem uI_nodup (a b : Int) : (uI a b).Nodup := by
  unfold uI
  refine List.Pairwise.map _ ?_ (List.nodup_range)
  intro x y h e
  exact h (by omega)
/-- an item of the list, by a number within -/
theorem atI_lt {α : Type} (l : List α) {i : Int} (h0 : 0 ≤ i) (h1 : i < l.length) : atI l i = l[i.toNat]? := by
  conv => lhs; rw [show i = (i.toNat : Int) by omega]
  rw [atI_nat]
/-! tuples of numbers and tuples, in their order -/
theorem listLt_lex : ∀ a b : List Int, PySem.W.listLt a b = HT.lexLt a b
  | [], [] => rfl
  | [], _ :: _ => rfl
  | _ :: _, [] => rfl
  | x :: a, y :: b => by
    rw [PySem.W.listLt, HT.lexLt_cons, listLt_lex a b]; rfl
theorem alikeAll_int (a b : List Int) : PySem.W.alikeAll (a.map PyData.int) (b.map PyData.int) = true := PySem.W.alikeAll_map a b
theorem dataLt_ints (a b : List Int) : PySem.W.dataLt (.tuple (a.map .int)) (.tuple (b.map .int)) = HT.lexLt a b := by
  rw [PySem.W.dataLt_tuple, ← listLt_lex]
  exact PySem.W.lexAll_map a b
theorem eqv_ints (a b : List Int) : PyData.eqv (.tuple (a.map .int)) (.tuple (b.map .int)) = decide (a = b) := by
  rw [PyData.eqv, eqvAll_int]
theorem lexLt_self : ∀ a : List Int, HT.lexLt a a = false
  | [] => rfl
  | x :: a => by rw [HT.lexLt_cons, if_pos rfl, lexLt_self a]
theorem depthAll_ints (a : List Int) : PyData.depthAll (a.map PyData.int) = 0 := by
  induction a with
  | nil => rfl
  | cons x a ih => rw [List.map_cons, PyData.depthAll, ih]; rfl
def ltKey (k n k' n' : Int) (a b a' b' : List Int) : Bool := if k = k' then (if n = n' then (if a = a' then HT.lexLt b b' else HT.lexLt a a') else decide (n < n')) else decide (k < k')
theorem oLt_key (k n k' n' : Int) (a b a' b' : List Int) : oLt (.tup [.int k, .int n, .tup (nD a), .tup (nD b)]) (.tup [.int k', .int n', .tup (nD a'), .tup (nD b')]) = some (.z (.bl (ltKey k n k' n' a b a' b'))) := by
  have e : ∀ (k n : Int) (a b : List Int), D.pys [.int k, .int n, .tup (nD a), .tup (nD b)] = some [.int k, .int n, .tuple (a.map .int), .tuple (b.map .int)] := fun k n a b => by
    simp only [D.pys, D.py, pys_nD]
  have e2 : ∀ (k n : Int) (a b : List Int), intsD [.int k, .int n, .tup (nD a), .tup (nD b)] = none := fun _ _ _ _ => rfl
  show (match intsD [.int k, .int n, .tup (nD a), .tup (nD b)], intsD [.int k', .int n', .tup (nD a'), .tup (nD b')] with | some ns, some ms => some (T.z (.bl (HT.lexLt ns ms))) | _, _ => ltPy [.int k, .int n, .tup (nD a), .tup (nD b)] [.int k', .int n', .tup (nD a'), .tup (nD b')]) = _
  rw [e2, e2]
  show ltPy _ _ = _
  unfold ltPy
  rw [e, e]
  dsimp only
  have al : PySem.W.alikeAll [PyData.int k, .int n, .tuple (a.map .int), .tuple (b.map .int)] [PyData.int k', .int n', .tuple (a'.map .int), .tuple (b'.map .int)] = true := by
    simp only [PySem.W.alikeAll, PySem.W.alike, alikeAll_int, Bool.and_self]
  have dp : (PyData.tuple [PyData.int k, .int n, .tuple (a.map .int), .tuple (b.map .int)]).depth ≤ 64 := by
    simp only [PyData.depth, PyData.depthAll, depthAll_ints]
    decide
  rw [if_pos ⟨al, dp⟩]
  congr 3
  rw [PySem.W.dataLt_tuple]
  unfold ltKey
  have ai : ∀ x y : Int, PySem.W.alike (.int x) (.int y) = true := fun x y => by simp only [PySem.W.alike]
  have at' : ∀ x y : List Int, PySem.W.alike (.tuple (x.map .int)) (.tuple (y.map .int)) = true := fun x y => by simp only [PySem.W.alike, alikeAll_int]
  have ei : ∀ x y : Int, PyData.eqv (.int x) (.int y) = decide (x = y) := fun x y => by rw [PyData.eqv, beq_int]
  by_cases h1 : k = k'
  · rw [if_pos h1, PySem.W.dataLt_all_yes (ai _ _) (by rw [ei, decide_eq_true h1])]
    by_cases h2 : n = n'
    · rw [if_pos h2, PySem.W.dataLt_all_yes (ai _ _) (by rw [ei, decide_eq_true h2])]
      by_cases h3 : a = a'
      · rw [if_pos h3, PySem.W.dataLt_all_yes (at' _ _) (by rw [eqv_ints, decide_eq_true h3])]
        by_cases h4 : b = b'
        · rw [PySem.W.dataLt_all_yes (at' _ _) (by rw [eqv_ints, decide_eq_true h4]), h4, lexLt_self]
          rfl
        · rw [PySem.W.dataLt_all_no (at' _ _) (by rw [eqv_ints, decide_eq_false h4]), dataLt_ints]
      · rw [if_neg h3, PySem.W.dataLt_all_no (at' _ _) (by rw [eqv_ints, decide_eq_false h3]), dataLt_ints]
    · rw [if_neg h2, PySem.W.dataLt_all_no (ai _ _) (by rw [ei, decide_eq_false h2]), PySem.W.dataLt_int]
  · rw [if_neg h1, PySem.W.dataLt_all_no (ai _ _) (by rw [ei, decide_eq_false h1]), PySem.W.dataLt_int]
end Ar
/-! ArV: displays of dicts, d.get(k). -/
namespace Ar
open PySem PySem.Spec PyProof.Rows L2
/-! {k: v}, where k is a tuple -/
def tDispT1 (tk tv : TE) : TE := fun σ H Q => ∀ p, H p = none → tk σ (upd H p (.dT [])) fun x H1 => tv σ H1 fun y H2 => H2 p = some (.dT []) ∧ ∃ (b : Addr) (ks : List Key), x = .ref b ∧ H2 b = some (.tup (ks.map kV)) ∧ Q (.ref p) (upd H2 p (.dT [(ks, y)]))
theorem pe_dispT1 {X : Cx} {pos : Pos} {k v : Expr} {tk tv : TE} (hu : X.A.units + 1 < cLine) (hk : PE X k tk) (hv : PE X v tv) : PE X (.Dict [some k] [v] pos) (tDispT1 tk tv) := by
  refine ⟨fun pins s σ H Q I q => ?_⟩
  have hn := I.hok.fresh (Nat.le_refl s.heap.objs.size)
  have I1 := I.laid (a := s.heap.objs.size) (o := .dT []) (h' := s.heap.push { cls := .type "dict", data := .dict #[] }) (t' := s.toks) (fun _ _ q => Heap.get?_push_of_some _ q) (Nat.le_refl _) (dt_empty s.heap I.big)
  have room : (tupleKind (mixKind X.prog X.w)).room X.A := show X.A.units < cLine by omega
  have zp := zip_pairTrees [some k] [v] X.env pos rfl rfl
  have hl : (pairTrees [some k] [v] X.env pos).length = 1 := pairTrees_length _ _ _ _ rfl rfl
  rw [arm_eval_Dict, zp, dictDisplay_pairs (pairTrees [some k] [v] X.env pos) (fun e => nomatch e) (by rw [hl]; decide)]
  refine wpAny_bind (wpAny_standAt (wpAny_bind (wpAny_subDictH (knd := tupleKind (mixKind X.prog X.w)) (Q := fun d s' => wpAny (model X.prog X.w) X.A (pure (Value.ref d)) _ X.xe s') room (by rw [hl]; decide)
    (pairTrees_cons_walk (thn (hk.run pins _ σ _ _ I1 (q _ hn)) fun u s1 ⟨x, H1, J1, rx, q1⟩ => thn (hv.run pins s1 σ H1 _ J1 q1) fun w2 s2 ⟨y, H2, J2, ry, e, b, ks, ex, eb, q2⟩ => pairTrees_nil_walk ?_)))))
  subst ex
  cases (show u = Value.ref b from rx)
  obtain ⟨z, hd, xs0, rel0, dd0⟩ := dt_of J2.hok e
  cases rel0
  have hkey := key_of J2.hok eb
  refine ⟨[(ks, b, w2)], ⟨rfl, rfl, hkey, True.intro⟩, dd0, fun h' tk dd' hs => wpAny_pure ⟨.ref s.heap.objs.size, _, ?_, rfl, q2⟩⟩
  obtain ⟨o, es, ep, hq, h2, h3, h4, _, h5⟩ := dd'
  have rel : KT H2 [(ks, y)] (storedAllH [] [(ks, b, w2)]) := .cons ⟨rfl, eb, ry⟩ .nil
  refine d_write J2 (by rw [e]; exact True.intro) hs ⟨o, hq⟩ ⟨by show 1 ≤ sizeLine; rw [sizeLine_eq]; omega, hd, _, rel.keeps fun c ys ec => ?_, o, es, ep, hq, h2, h3, h4, h5⟩
  rw [upd_ne (ne_of ec e (fun z => nomatch z))]
  exact ec

theorem Sta.turn {g : Gx} {F M G H : Hp} {σ : L2.St} {ts : List T} {p : Addr} {o : HO} (o' : HO) (st : Sta g F M (jn (upd em p o) G) H σ ts) (dj : Dj (upd em p o) G) (nt : ∀ xs, o' ≠ .tup xs := by intro _ z; cases z) : H p = some o ∧ Sta g F M (jn (upd em p o') G) (upd H p o') σ ts ∧ Dj (upd em p o') G := by
  have hc := st.hc
  have hD : H p = some o := hc.gh _ _ (jn_l _ _ upd_same)
  have DM : M p = none := hc.mg.ne' (jn_l _ _ upd_same)
  have DF : F p = none := hc.fg.ne' (jn_l _ _ upd_same)
  have DG : G p = none := dj.ne upd_same
  have off : ∀ {A : Hp}, A p = none → Same A H → Same A (upd H p o') := fun {A} a s b o e => by rw [upd_ne (ne_of_none e a)]; exact s _ _ e
  exact ⟨hD, st.more (Same.refl _) ⟨off DF hc.fh, off DM hc.mh, jn_sub (same_upd_l Same.empty upd_same) (off DG ((jn_r dj).trans hc.gh)), hc.fm, dj_jn_r (dj_upd_l Dj.em_l DF).symm (hc.fg.sub (Same.refl _) (jn_r dj)), dj_jn_r (dj_upd_l Dj.em_l DM).symm (hc.mg.sub (Same.refl _) (jn_r dj)), hc.ft.cell nt⟩, dj_upd_l Dj.em_l DG⟩
/-- {k: v}, k a tuple of numbers and texts -/
def dsT (mk mv : M D) : M T := mk >>= fun k => mv >>= fun v => opt ((D.tkey k).map fun ks => .dt [(ks, v)])
section
variable {X : Cx} {W : WX} {k v o e f : Expr} {pos p apos cpos : Pos} {mk mv mo : M D}
theorem pe_dsT (hu : X.A.units + 1 < cLine) (hk : PE X k (tZ (gx X) W mk)) (hv : PE X v (tZ (gx X) W mv)) : PE X (.Dict [some k] [v] pos) (tD (gx X) W (dsT mk mv)) :=
  pe_imp (pe_dispT1 hu hk hv) fun σ H Q ⟨F, Mm, G, ts, st, kk⟩ => fun q hq => by
    obtain ⟨st0, dj⟩ := st.newO (o := .dT []) hq
    have kk : KD (gx X) W F G σ Q (dsT mk mv ts) := kk
    refine tZ_then (K := KD (gx X) W F G σ Q) st0 id (fun _ _ z => KX.frame z dj) kk fun d ts1 _ k1 F1 M1 H1 v1 s1 r1 st1 => ?_
    refine tZ_then (K := KD (gx X) W F1 G σ Q) st1 id (fun _ _ z => KX.frame z dj) (KD.mono s1 k1) fun y ts2 _ k2 F2 M2 H2 v2 s2 r2 st2 => ?_
    cases q3 : Ar.D.tkey d with
    | none => rw [q3] at k2; exact k2.elim
    | some ks =>
      rw [q3] at k2
      obtain ⟨b, eb, hb⟩ := (Vh.r (H := H2) (r1.mono s2)).tkey st2.hc.fh q3
      obtain ⟨h2, st3, dj3⟩ := st2.turn (.dT [(ks, v2)]) dj
      refine ⟨h2, b, ks, eb, hb, ?_⟩
      exact k2 F2 (upd em q (.dT [(ks, v2)])) M2 _ _ s2 (.dt upd_same rfl (.cons r2 .nil)) st3 dj3
/-- {} -/
def nwK : M T := fun ts => .ok (.dk []) ts
theorem pe_nwK : PE X (.Dict [] [] pos) (tD (gx X) W nwK) :=
  pe_imp pe_dnewK fun σ H Q ⟨F, Mm, G, ts, st, kk⟩ => fun q hq => by
    obtain ⟨st0, dj⟩ := st.newO (o := .dK []) hq
    exact kk F (upd em q (.dK [])) Mm _ _ (Same.refl _) (.dk (M' := em) upd_same Same.empty rfl rfl .nil) st0 dj
/-! d.get(k), d.get(k, x) -/
def oGet (x y z : D) : Option T := match x with
  | .dk kvs => (D.key y).map fun k => .z ((getK kvs k).getD z)
  | .dt kvs => (D.tkey y).map fun k => .z ((getK kvs k).getD z)
  | _ => none
def isDic : D → Bool
  | .dk _ => true
  | .dt _ => true
  | _ => false
def recvD (m : M D) : M D := m >>= fun d => if isDic d = true then M.ret d else stop
def get1 (mo mk : M D) : M T := recvD mo >>= fun x => mk >>= fun y => opt (oGet x y .non)
theorem isDic_at {g : Gx} {F H : Hp} {v : V} {d : D} (s : Same F H) (r : Rp g F v d) (h : isDic d = true) : ∃ a, v = .ref a ∧ IsD H a := by
  cases r with
  | dk h1 _ _ => exact ⟨_, rfl, .inl ⟨_, Same.rdm s h1⟩⟩
  | dt h1 _ _ => exact ⟨_, rfl, .inr ⟨_, Same.rdm s h1⟩⟩
  | _ => cases h
theorem get_at {g : Gx} {F H : Hp} {v u : V} {x y z : D} {w : V} {t : T} (s : Same F H) (rx : Rp g F v x) (ry : Vh g F H u y) (rz : Rp g F w z) (e : oGet x y z = some t) : ∃ a o d, v = .ref a ∧ DGet H a u o ∧ t = .z d ∧ Rp g F (o.getD w) d := by
  cases rx with
  | @dk a kvs ds h1 hk ra =>
    unfold oGet at e
    dsimp only at e
    cases q : Ar.D.key y with
    | none => rw [q] at e; cases e
    | some k =>
      rw [q] at e; cases e
      cases ry.key q
      refine ⟨a, _, _, rfl, dget_k (Same.rdm s h1), rfl, ?_⟩
      rcases val_getK hk ra k with ⟨e1, e2⟩ | ⟨d, v', e1, e2, e3⟩
      · rw [e1, e2]; exact rz
      · rw [e1, e2]; exact e3
  | @dt a kvs ds h1 hk ra =>
    unfold oGet at e
    dsimp only at e
    cases q : Ar.D.tkey y with
    | none => rw [q] at e; cases e
    | some k =>
      rw [q] at e; cases e
      obtain ⟨b, rfl, hb⟩ := ry.tkey s q
      refine ⟨a, _, _, rfl, dget_t (Same.rdm s h1) hb, rfl, ?_⟩
      rcases val_getK hk ra k with ⟨e1, e2⟩ | ⟨d, v', e1, e2, e3⟩
      · rw [e1, e2]; exact rz
      · rw [e1, e2]; exact e3
  | _ => cases e
theorem recvD_then {g : Gx} {W : WX} {m : M D} {f : D → M T} {F Mm G H : Hp} {σ : L2.St} {ts : List T} {Q : VK} {Q' : VK} (st : Sta g F Mm G H σ ts) (k : KD g W F G σ Q ((recvD m >>= f) ts))
    (go : ∀ d ts1, isDic d = true → KD g W F G σ Q (f d ts1) → ∀ F' M' H' v, Same F F' → Rp g F' v d → Sta g F' M' G H' σ ts1 → Q' v H') : tZ g W m σ H Q' := by
  refine ⟨F, Mm, G, ts, st, ?_⟩
  have e0 : (recvD m >>= f) ts = (m >>= fun d => (if isDic d = true then M.ret d else stop) >>= f) ts := by
    show M.andThen (M.andThen m _) f ts = M.andThen m _ ts
    unfold M.andThen
    cases m ts <;> rfl
  rw [e0] at k
  cases q : m ts with
  | bad => rw [bind_bad q] at k; exact k
  | ex c ts' => rw [bind_ex q] at k; exact k
  | ok d ts' =>
    rw [bind_ok q] at k
    by_cases hd : isDic d = true
    · rw [if_pos hd] at k
      intro F' M' H' v s r st1
      exact go d ts' hd k F' M' H' v s r st1
    · rw [if_neg hd] at k; exact k.elim
theorem c_get1 (hu : X.A.units + 1 < cLine) (ho : PE X o (tZ (gx X) W mo)) (he : PE X e (tV (gx X) W mk)) (hbase : attributeBase o "get" X.env (eval o X.env) = eval o X.env) (n : nst e = true) (hl : (apos.endLine == cpos.line) = true) :
    PE X (.Call (.Attribute o "get" apos) [e] [] cpos) (tD (gx X) W (get1 mo mk)) :=
  pe_imp (pe_dget1 hu ho he ⟨hbase, few1 n _ _, hl, by rw [star_of n]; rfl⟩) fun σ H Q ⟨F, Mm, G, ts, st, k⟩ => by
    have k : KD (gx X) W F G σ Q (get1 mo mk ts) := k
    unfold get1 at k
    refine recvD_then st k fun d ts1 hd k1 F1 M1 H1 v s1 r st1 => ?_
    obtain ⟨a, rfl, ia⟩ := isDic_at st1.hc.fh r hd
    refine ⟨a, rfl, ia, ?_⟩
    refine tV_then (K := KD (gx X) W F1 G σ Q) st1 id (fun _ _ z => z) (KD.mono s1 k1) fun y ts2 _ k2 F2 M2 H2 v2 s2 r2 st2 => ?_
    obtain ⟨t, q, out⟩ := KD.opt st2 (KD.mono s2 k2)
    obtain ⟨a', o', d', e1, e2, e3, e4⟩ := get_at st2.hc.fh (r.mono s2) r2 .non q
    cases e1
    subst e3
    exact ⟨o', e2, out.val e4⟩
def get2 (mo mk mz : M D) : M T := recvD mo >>= fun x => mk >>= fun y => mz >>= fun z => opt (oGet x y z)
theorem c_get2 {mz : M D} (hu : X.A.units + 1 < cLine) (ho : PE X o (tZ (gx X) W mo)) (he : PE X e (tZ (gx X) W mk)) (hf : PE X f (tZ (gx X) W mz)) (hbase : attributeBase o "get" X.env (eval o X.env) = eval o X.env) (n : nst e = true) (n2 : nst f = true) (hl : (apos.endLine == cpos.line) = true) :
    PE X (.Call (.Attribute o "get" apos) [e, f] [] cpos) (tD (gx X) W (get2 mo mk mz)) :=
  pe_imp (pe_dget2 hu ho he hf ⟨hbase, few2 n n2 _ _, hl, by rw [star_of n, star_of n2]; rfl⟩) fun σ H Q ⟨F, Mm, G, ts, st, k⟩ => by
    have k : KD (gx X) W F G σ Q (get2 mo mk mz ts) := k
    unfold get2 at k
    refine recvD_then st k fun d ts1 hd k1 F1 M1 H1 v s1 r st1 => ?_
    obtain ⟨a, rfl, ia⟩ := isDic_at st1.hc.fh r hd
    refine ⟨a, rfl, ia, ?_⟩
    refine tZ_then (K := KD (gx X) W F1 G σ Q) st1 id (fun _ _ z => z) (KD.mono s1 k1) fun y ts2 _ k2 F2 M2 H2 v2 s2 r2 st2 => ?_
    refine tZ_then (K := KD (gx X) W F2 G σ Q) st2 id (fun _ _ z => z) (KD.mono s2 k2) fun z ts3 _ k3 F3 M3 H3 v3 s3 r3 st3 => ?_
    obtain ⟨t, q, out⟩ := KD.opt st3 (KD.mono s3 k3)
    obtain ⟨a', o', d', e1, e2, e3, e4⟩ := get_at st3.hc.fh ((r.mono s2).mono s3) (.r (r2.mono s3)) r3 q
    cases e1
    subst e3
    exact ⟨o', e2, out.val e4⟩
end
@[simp] theorem recvD_ap (m ts) : recvD m ts = (m ts).and fun d ts1 => if isDic d = true then .ok d ts1 else .bad := by
  unfold recvD; rw [bind_ap]; congr 1; funext d ts1; split <;> rfl
@[simp] theorem get1_ap (mo mk ts) : get1 mo mk ts = (recvD mo ts).and fun x ts1 => (mk ts1).and fun y ts2 => opt (oGet x y .non) ts2 := by
  unfold get1; rw [bind_ap]; congr 1
@[simp] theorem get2_ap (mo mk mz ts) : get2 mo mk mz ts = (recvD mo ts).and fun x ts1 => (mk ts1).and fun y ts2 => (mz ts2).and fun z ts3 => opt (oGet x y z) ts3 := by
  unfold get2; rw [bind_ap]; congr 1
@[simp] theorem isDic_dk (l) : isDic (.dk l) = true := rfl
@[simp] theorem isDic_dt (l) : isDic (.dt l) = true := rfl
@[simp] theorem dsT_ap (mk mv ts) : dsT mk mv ts = (mk ts).and fun k ts1 => (mv ts1).and fun v ts2 => opt ((D.tkey k).map fun ks => .dt [(ks, v)]) ts2 := by
  unfold dsT; rw [bind_ap]; congr 1
@[simp] theorem nwK_ap (ts) : nwK ts = .ok (.dk []) ts := rfl
@[simp] theorem fz_dt (l) : T.fz (.dt l) = some (.dt l) := by rw [T.fz]
@[simp] theorem vw_dt (l) : T.vw (.dt l) = some (.dt l) := rfl
@[simp] theorem frzT_dt (l) : frzT (.dt l) = .z (.dt l) := rfl
@[simp] theorem setAt_dt (d y l) : setAt d (.z y) (.dt l) = match D.tkey d with | some k => if l.length < lim then some (.dt (putD k y l)) else none | none => none := rfl
@[simp] theorem oIx_dt (l y) : oIx (.dt l) y = match D.tkey y with | some k => (getK l k).map .z | none => none := rfl
@[simp] theorem oIn_dt (l y) : oIn y (.dt l) = (D.tkey y).map fun k => .z (.bl (hasK l k)) := by unfold oIn inD; cases D.tkey y <;> rfl
@[simp] theorem oNotIn_dt (l y) : oNotIn y (.dt l) = (D.tkey y).map fun k => .z (.bl (!hasK l k)) := by unfold oNotIn inD; cases D.tkey y <;> rfl
@[simp] theorem oGet_dt (l y z) : oGet (.dt l) y z = (D.tkey y).map fun k => .z ((getK l k).getD z) := rfl
@[simp] theorem oGet_dk (l y z) : oGet (.dk l) y z = (D.key y).map fun k => .z ((getK l k).getD z) := rfl
/-! d[e] of an owned dict, e any expression -/
def isDtO : Option T → Bool
  | some (.dt _) => true
  | _ => false
def ixO (y : D) : Option T → Option T
  | some (.dt kvs) => (D.tkey y).bind fun k => (getK kvs k).map T.z
  | _ => none
def ixDt (i : Nat) (mb : M D) : M T := fun ts => if isDtO ts[i]? = true then (mb >>= fun y ts1 => opt (ixO y ts1[i]?) ts1) ts else .bad
theorem isDtO_eq {o : Option T} (h : isDtO o = true) : ∃ kvs, o = some (.dt kvs) := by
  unfold isDtO at h
  split at h
  · exact ⟨_, rfl⟩
  · cases h
theorem pe_ixDt {X : Cx} {W : WX} {b : Expr} {x : Str} {p pos : Pos} {i : Nat} {mb : M D} (hu : X.A.units + 1 < cLine) (hN : X.N[i]? = some x) (hv : Vis X.env.scope x) (hd : (x == ("__debug__" : Str)) = false) (hcd : (x == ("__classdict__" : Str)) = false) (hb : PE X b (tZ (gx X) W mb)) (hm : PlainIx b) :
    PE X (.Subscript (.Name x p) b pos) (tD (gx X) W (ixDt i mb)) :=
  pe_imp (pe_ix (ix_all hu) (pe_var hN hv hd hcd) hb hm) fun σ H Q ⟨F, Mm, G, ts, st, k⟩ => by
    have k : KD (gx X) W F G σ Q (ixDt i mb ts) := k
    unfold ixDt at k
    by_cases hi : isDtO ts[i]? = true
    · rw [if_pos hi] at k
      obtain ⟨kvs0, e0⟩ := isDtO_eq hi
      obtain ⟨a, ws0, e1, hH, _⟩ := Sta.dtt (Mv := em) st Dj.em_l e0
      refine ⟨.ref a, e1, ?_⟩
      refine tZ_then (K := KD (gx X) W F G σ Q) st id (fun _ _ z => z) k fun y ts1 _ k1 F1 M1 H1 v s1 r st1 => ?_
      obtain ⟨t, q, out⟩ := KD.opt st1 (KD.mono s1 k1)
      unfold ixO at q
      split at q
      · rename_i kvs q0
        obtain ⟨a', ws, e2, hH2, hk, rs, _⟩ := Sta.dtt (Mv := em) st1 Dj.em_l q0
        rw [e1] at e2; cases e2
        cases q3 : Ar.D.tkey y with
        | none => rw [q3] at q; cases q
        | some kk =>
          rw [q3] at q
          simp only [Option.bind_some] at q
          rcases val_getK hk rs kk with ⟨h1, _⟩ | ⟨d', v', h1, h2, h3⟩
          · rw [h1] at q; cases q
          · rw [h1] at q; cases q
            obtain ⟨b', eb, hb'⟩ := (Vh.r (H := H1) r).tkey st1.hc.fh q3
            subst eb
            refine .inr ⟨a, v', rfl, ?_, out.val h3⟩
            rw [← h2]; exact DGet.t hH2 hb'
      · cases q
    · rw [if_neg hi] at k; exact k.elim
@[simp] theorem isDtO_dt (l) : isDtO (some (.dt l)) = true := rfl
@[simp] theorem ixO_dt (y l) : ixO y (some (.dt l)) = (D.tkey y).bind fun k => (getK l k).map T.z := rfl
@[simp] theorem ixDt_ap (i mb ts) : ixDt i mb ts = if isDtO ts[i]? = true then (mb ts).and fun y ts1 => opt (ixO y ts1[i]?) ts1 else .bad := by
  unfold ixDt
  split
  · rw [bind_ap]
  · rfl
end Ar
/-! ArW: comprehensions whose items are owned; the list in an owned list is lengthened. -/
namespace Ar
open PySem PySem.Spec PyProof.Rows L2
def compRO (vs : List Nat) (put : D → List T → Option (List T)) (mc : M Bool) (me : M T) : List D → M (List T)
  | [] => fun ts => .ok [] (wipeT ts vs)
  | d :: ds => fun ts => match put d (wipeT ts vs) with
    | none => .bad
    | some ts1 => match mc ts1 with
      | .ok b ts2 => if b = true then (match me ts2 with
          | .ok y ts3 => match compRO vs put mc me ds ts3 with
            | .ok l ts4 => .ok (y :: l) ts4
            | .ex c ts4 => .ex c ts4
            | .bad => .bad
          | _ => .bad) else compRO vs put mc me ds ts2
      | _ => .bad
def compO (mi : M (List D)) (vs : List Nat) (put : D → List T → Option (List T)) (mc : M Bool) (me : M T) : M T :=
  mi >>= fun ds => compRO vs put mc me ds >>= fun l => if l.length ≤ lim then M.ret (.l l) else stop
section
variable {X : Cx} {W : WX} {elt tg iter : Expr} {ifs : List Expr} {scope : Scope} {own : List (Str × Nat)} {pos : Pos} {mi : M (List D)} {put : D → List T → Option (List T)} {mc : M Bool} {me : M T}
theorem comp_coreO (hput : ∀ d ts ts', put d ts = some ts' → ts'.length = ts.length) {σ : L2.St} (hσ : σ.length = X.N.length) {H : Hp} {Q : VK} {vs : List Nat} (h : tD (gx X) W (compO mi vs put mc me) σ H Q) :
    tLc (tI (gx X) W mi) (gD (gx X) (others X.N.length vs) put) (tB (gx X) W0 mc) (tD (gx X) W0 me) vs σ H Q := by
  obtain ⟨F, Mm, G, ts, st, k⟩ := h
  refine ⟨F, Mm, G, ts, st, ?_⟩
  change KD (gx X) W F G σ Q (compO mi vs put mc me ts) at k
  unfold compO at k
  cases q : mi ts with
  | bad => rw [bind_bad q] at k; exact k
  | ex c ts' => rw [bind_ex q] at k; exact k
  | ok ds ts0 =>
    rw [bind_ok q] at k
    intro F1 M1 H1 J s1 st1 src Da hDa
    -- what is left, behind the items so far
    let Rest : Hp → List T → R (List T) → Prop := fun F' acc r => match r with
      | .ok l ts' => (acc ++ l).length ≤ lim ∧ ∀ F'' Mv M' H' v, Same F' F'' → RO (gx X) F'' Mv v (.l (acc ++ l)) → Sta (gx X) F'' M' (jn Mv G) H' σ ts' → Dj Mv G → Q v H'
      | _ => False
    have rest0 : Rest F1 [] (compRO vs put mc me ds ts0) := by
      show match compRO vs put mc me ds ts0 with
        | .ok l ts' => _
        | _ => False
      cases q2 : compRO vs put mc me ds ts0 with
      | bad => rw [bind_bad q2] at k; exact k
      | ex c ts' =>
        exfalso
        have noex : ∀ (l : List D) (us : List T) (c : Str) (us' : List T), compRO vs put mc me l us ≠ .ex c us' := by
          intro l
          induction l with
          | nil => intro us c us' z; cases z
          | cons d r ih =>
            intro us c us' z
            rw [compRO] at z
            dsimp only at z
            split at z
            · cases z
            · split at z
              · split at z
                · split at z
                  · split at z
                    · cases z
                    · rename_i h3; cases z; exact ih _ _ _ h3
                    · cases z
                  · cases z
                · exact ih _ _ _ z
              · cases z
        exact noex _ _ _ _ q2
      | ok l ts' =>
        rw [bind_ok q2] at k
        by_cases hl : l.length ≤ lim
        · rw [if_pos hl] at k
          exact ⟨hl, fun F'' Mv M' H' v s => k F'' Mv M' H' v (s1.trans s)⟩
        · rw [if_neg hl] at k; exact k.elim
    have hn1 : σ.length = ts0.length := st1.len
    obtain ⟨stD, djD⟩ := st1.newO (o := .lst []) hDa
    refine ⟨fun i m H' => ∃ F' M' ts' acc accV P, Same F1 F' ∧ Dj (upd Ar.em Da (.lst accV)) (jn P G) ∧ Dj P G ∧ Sta (gx X) F' M' (jn (upd Ar.em Da (.lst accV)) (jn P G)) H' (wipe σ vs) (wipeT ts' vs) ∧ ROs (gx X) F' P accV acc ∧ i + m = ds.length ∧ Rest F' acc (compRO vs put mc me (ds.drop i) ts'),
      ⟨ds.length, F1, M1, ts0, [], [], Ar.em, Same.refl _, djD, Dj.em_l, stD.wipe vs, .nil, Nat.zero_add _, rest0⟩, ?_⟩
    rintro i m H' ⟨F2, M2, ts2, acc, accV, P, s2, dj2, djP, st2, ra, em, k2⟩
    cases m with
    | zero =>
      have ei : i = ds.length := em
      refine .inl ⟨src.stop i F2 M2 _ H' _ _ s2 st2 ei, ?_⟩
      rw [List.drop_of_length_le (by omega)] at k2
      obtain ⟨hl, k3⟩ := k2
      rw [List.append_nil] at k3
      have PD : P Da = none := (dj2.sub (Same.refl _) jn_l).ne upd_same
      have djDP : Dj (upd Ar.em Da (.lst accV)) P := dj2.sub (Same.refl _) jn_l
      have djDG : Dj (upd Ar.em Da (.lst accV)) G := dj2.sub (Same.refl _) (jn_r djP)
      have st3 : Sta (gx X) F2 M2 (jn (jn (upd Ar.em Da (.lst accV)) P) G) H' σ (wipeT ts2 vs) := st2.unwipe.more (Same.refl _) (by
        have hc := st2.unwipe.hc
        have sub : Same (jn (jn (upd Ar.em Da (.lst accV)) P) G) (jn (upd Ar.em Da (.lst accV)) (jn P G)) := jn_sub (jn_sub jn_l (jn_l.trans (jn_r dj2))) ((jn_r djP).trans (jn_r dj2))
        exact ⟨hc.fh, hc.mh, sub.trans hc.gh, hc.fm, hc.fg.sub (Same.refl _) sub, hc.mg.sub (Same.refl _) sub, hc.ft⟩)
      exact k3 F2 (jn (upd Ar.em Da (.lst accV)) P) M2 H' (.ref Da) (Same.refl _) (.l (M' := P) (jn_l _ _ upd_same) (jn_r djDP) PD ra) st3 (dj_jn djDG djP)
    | succ m =>
      have hi : i < ds.length := by omega
      have ed : ds.drop i = ds[i] :: ds.drop (i + 1) := List.drop_eq_getElem_cons hi
      rw [ed, compRO] at k2
      dsimp only at k2
      refine .inr ⟨src.go i F2 M2 _ H' _ _ s2 st2 hi, fun H3 => ∃ F' M' ts' acc accV P, Same F1 F' ∧ Dj (upd Ar.em Da (.lst accV)) (jn P G) ∧ Dj P G ∧ Sta (gx X) F' M' (jn (upd Ar.em Da (.lst accV)) (jn P G)) H3 (wipe σ vs) (wipeT ts' vs) ∧ ROs (gx X) F' P accV acc ∧ Rest F' acc (compRO vs put mc me (ds.drop (i + 1)) ts'), ?_, ?_⟩
      · rintro H3 ⟨F3, M3, ts3, acc3, accV3, P3, a1, a2, a2', a3, a4, a5⟩
        exact ⟨m, Nat.lt_succ_self m, F3, M3, ts3, acc3, accV3, P3, a1, a2, a2', a3, a4, by omega, a5⟩
      · intro x H3 y
        obtain ⟨F3, s3, rx, st3⟩ := src.yld i _ F2 M2 _ H' _ _ x H3 s2 st2 (List.getElem?_eq_getElem hi) y
        cases q2 : put ds[i] (wipeT ts2 vs) with
        | none => rw [q2] at k2; exact k2.elim
        | some ts3 =>
          rw [q2] at k2
          dsimp only at k2
          refine ⟨F3, M2, _, _, ds[i], ts3, st3, rx, q2, fun M4 σ4 st4 p4 => ?_⟩
          have l2 : ts2.length = σ.length := by
            have := st2.len
            rw [wipe_length, wipeT_length] at this
            exact this.symm
          have l4 : σ4.length = σ.length := by
            rw [st4.len, hput _ _ _ q2, wipeT_length, l2]
          have hw : wipe σ4 vs = wipe σ vs := wipe_eq l4 (by rw [hσ]; exact p4)
          refine ⟨hw, F3, M4, _, ts3, st4, ?_⟩
          cases q3 : mc ts3 with
          | bad => rw [q3] at k2; exact k2.elim
          | ex c ts5 => rw [q3] at k2; exact k2.elim
          | ok b ts5 =>
            rw [q3] at k2
            dsimp only at k2
            intro F5 M5 H5 s5 st5
            cases b with
            | false =>
              simp only [Bool.false_eq_true, if_false] at k2 ⊢
              have st6 := st5.wipe vs
              rw [hw] at st6
              refine ⟨F5, M5, ts5, acc, accV, P, (s2.trans s3).trans s5, dj2, djP, st6, ra.mono (s3.trans s5), ?_⟩
              show match compRO vs put mc me (ds.drop (i + 1)) ts5 with
                | .ok l ts' => _
                | _ => False
              revert k2
              show (match compRO vs put mc me (ds.drop (i + 1)) ts5 with
                | .ok l ts' => _
                | _ => False) → _
              cases compRO vs put mc me (ds.drop (i + 1)) ts5 with
              | ok l ts' => exact fun ⟨h1, h2⟩ => ⟨h1, fun F'' Mv M' H' v s => h2 F'' Mv M' H' v ((s3.trans s5).trans s)⟩
              | ex c ts' => exact fun z => z
              | bad => exact fun z => z
            | true =>
              simp only [if_true] at k2 ⊢
              refine ⟨F5, M5, _, ts5, st5, ?_⟩
              cases q4 : me ts5 with
              | bad => rw [q4] at k2; exact k2.elim
              | ex c ts6 => rw [q4] at k2; exact k2.elim
              | ok yd ts6 =>
                rw [q4] at k2
                dsimp only at k2
                intro F6 Mw M6 H6 yv s6 ry st6 dj6
                have hc := st6.hc
                have sPG : Same (jn P G) (jn Mw (jn (upd Ar.em Da (.lst accV)) (jn P G))) := (jn_r dj2).trans (jn_r dj6)
                have sub : Same (jn (upd Ar.em Da (.lst accV)) (jn (jn P Mw) G)) (jn Mw (jn (upd Ar.em Da (.lst accV)) (jn P G))) := jn_sub (jn_l.trans (jn_r dj6)) (jn_sub (jn_sub (jn_l.trans sPG) jn_l) ((jn_r djP).trans sPG))
                have st7 : Sta (gx X) F6 M6 (jn (upd Ar.em Da (.lst accV)) (jn (jn P Mw) G)) H6 σ4 ts6 := st6.more (Same.refl _) ⟨hc.fh, hc.mh, sub.trans hc.gh, hc.fm, hc.fg.sub (Same.refl _) sub, hc.mg.sub (Same.refl _) sub, hc.ft⟩
                have djMP : Dj P Mw := (dj6.sub (Same.refl _) (jn_l.trans (jn_r dj2))).symm
                have djMG : Dj Mw G := dj6.sub (Same.refl _) ((jn_r djP).trans (jn_r dj2))
                have djDM : Dj (upd Ar.em Da (.lst accV)) Mw := (dj6.sub (Same.refl _) jn_l).symm
                have djDP : Dj (upd Ar.em Da (.lst accV)) P := dj2.sub (Same.refl _) jn_l
                have djDG : Dj (upd Ar.em Da (.lst accV)) G := dj2.sub (Same.refl _) (jn_r djP)
                have djR : Dj (jn P Mw) G := dj_jn djP djMG
                have djA : Dj (upd Ar.em Da (.lst accV)) (jn (jn P Mw) G) := dj_jn_r (dj_jn_r djDP djDM) djDG
                obtain ⟨hD, st8, dj8⟩ := st7.turn (.lst (accV ++ [yv])) djA
                cases q5 : compRO vs put mc me (ds.drop (i + 1)) ts6 with
                | bad => rw [q5] at k2; exact k2.elim
                | ex c ts7 => rw [q5] at k2; exact k2.elim
                | ok l ts7 =>
                  rw [q5] at k2
                  obtain ⟨h1, h2⟩ := k2
                  have h3 : acc.length + (l.length + 1) ≤ lim := by simpa using h1
                  refine ⟨accV, hD, lim_lt' (by rw [ra.length]; omega), F6, M6, ts6, acc ++ [yd], accV ++ [yv], jn P Mw, ((s2.trans s3).trans s5).trans s6, dj8, djR, ?_, (ra.mono ((s3.trans s5).trans s6)).append (.cons (M1 := Mw) (M2 := Ar.em) ry .nil (Same.refl _) Same.empty Dj.em_r) djMP jn_l (jn_r djMP), ?_⟩
                  · have st9 := st8.wipe vs
                    rw [hw] at st9
                    exact st9
                  · rw [q5]
                    refine ⟨by simpa using h1, fun F'' Mv M' H'' v s => ?_⟩
                    rw [List.append_assoc]
                    exact h2 F'' Mv M' H'' v (((s3.trans s5).trans s6).trans s)
theorem pe_compO (hc : X.calm = true) (hN : X.N.Nodup) (hi : PI X tg iter (tI (gx X) W mi)) (ok : BlkOk X.N X.env.scope scope own)
    (hg : ∀ (s : Shared) (H : Hp) (C : Addr) (cl : List (Str × Addr)) (fp : List Addr), PG (X.blk s H scope (compEnvC scope cl C X.env) fp) tg (gD (gx X) (others X.N.length (own.map (·.2))) put))
    (ht : ∀ (s : Shared) (H : Hp) (C : Addr) (cl : List (Str × Addr)) (fp : List Addr), PTs (X.blk s H scope (compEnvC scope cl C X.env) fp) ifs (tB (gx X) W0 mc))
    (he : ∀ (s : Shared) (H : Hp) (C : Addr) (cl : List (Str × Addr)) (fp : List Addr), PE (X.blk s H scope (compEnvC scope cl C X.env) fp) elt (tD (gx X) W0 me)) (hs : ∀ x, foldedSetIterable iter X.env x = pure x)
    (hput : ∀ d ts ts', put d ts = some ts' → ts'.length = ts.length) : PE X (.ListComp elt [⟨tg, iter, ifs, 0⟩] scope pos) (tD (gx X) W (compO mi (own.map (·.2)) put mc me)) :=
  ⟨fun pins s σ H Q I h => (pe_lc hc hN hi ok hg ht he hs).run pins s σ H Q I (comp_coreO hput I.len h)⟩
theorem ps_setCompO {bs : List Nat} {i : Nat} {y : Str} {py spos : Pos} (hc : X.calm = true) (hN : X.N.Nodup) (hy : X.N[i]? = some y) (hyl : X.env.scope.names.lookup y = some .local)
    (hsw : swapsWith (.ListComp elt [⟨tg, iter, ifs, 0⟩] scope pos) (some (.Name y py)) spos.line X.env = pure true) (hi : PI X tg iter (tI (gx X) W mi)) (ok : BlkOk X.N X.env.scope scope own)
    (hg : ∀ (s : Shared) (H : Hp) (C : Addr) (cl : List (Str × Addr)) (fp : List Addr), PG (X.blk s H scope (compEnvC scope cl C X.env) fp) tg (gD (gx X) (others X.N.length (own.map (·.2))) put))
    (ht : ∀ (s : Shared) (H : Hp) (C : Addr) (cl : List (Str × Addr)) (fp : List Addr), PTs (X.blk s H scope (compEnvC scope cl C X.env) fp) ifs (tB (gx X) W0 mc))
    (he : ∀ (s : Shared) (H : Hp) (C : Addr) (cl : List (Str × Addr)) (fp : List Addr), PE (X.blk s H scope (compEnvC scope cl C X.env) fp) elt (tD (gx X) W0 me)) (hs : ∀ x, foldedSetIterable iter X.env x = pure x)
    (hput : ∀ d ts ts', put d ts = some ts' → ts'.length = ts.length) (hb : i ∉ bs) : PS X (.Assign [.Name y py] (.ListComp elt [⟨tg, iter, ifs, 0⟩] scope pos) spos) (tS (gx X) W bs (setS i (compO mi (own.map (·.2)) put mc me))) :=
  ⟨fun pins s σ H D I ⟨F, Mm, G, ts, sa, k⟩ => (ps_setLc hc hN hy hyl hsw hi ok hg ht he hs).run pins s σ H D I (comp_coreO (W := W) hput I.len (Q := fun x H1 => gName i x σ H1 D.nx) (tD_S sa k fun t ts1 _ k1 F1 Mv M1 H1 v s1 r st1 dj => by
    by_cases hl : i < ts1.length
    · rw [if_pos hl] at k1
      obtain ⟨M', st2⟩ := st1.assign r dj hl
      exact k1 F1 M' H1 _ s1 st2 (Pin.set hb)
    · rw [if_neg hl] at k1; exact k1.elim))⟩
end
/-! x[e].append(y) of an owned list in an owned list -/
def del (M : Hp) (b : Addr) : Hp := fun x => if x = b then none else M x
theorem del_same (M : Hp) (b : Addr) : Same (del M b) M := fun x o e => by
  unfold del at e
  split at e
  · cases e
  · exact e
theorem del_at (M : Hp) (b : Addr) : del M b b = none := by unfold del; rw [if_pos rfl]
theorem upd_del (M : Hp) (b : Addr) (o : HO) : upd (del M b) b o = upd M b o := by
  funext x
  by_cases h : x = b
  · subst h; rw [upd_same, upd_same]
  · rw [upd_ne h, upd_ne h]; unfold del; rw [if_neg h]
theorem upd_mono {A B : Hp} {p : Addr} {o : HO} (h : Same A B) : Same (upd A p o) (upd B p o) := fun x u e => by
  by_cases hx : x = p
  · subst hx; rw [upd_same] at e ⊢; exact e
  · rw [upd_ne hx] at e ⊢; exact h _ _ e
theorem same_off {A B : Hp} {p : Addr} {o : HO} (h : Same B A) (n : B p = none) : Same B (upd A p o) := fun x u e => by
  rw [upd_ne (ne_of_none e n)]; exact h _ _ e
theorem Sta.lst2 {g : Gx} {F Mm Mv G H : Hp} {σ : L2.St} {ts : List T} {i k : Nat} {xs ys : List T} (st : Sta g F Mm (jn Mv G) H σ ts) (d : Dj Mv G) (e : ts[i]? = some (.l xs)) (ek : xs[k]? = some (.l ys)) :
    ∃ (a : Addr) (ws : List V) (b : Addr) (vs : List V), σ[i]? = some (some (.ref a)) ∧ H a = some (.lst ws) ∧ ws.length = xs.length ∧ ws[k]? = some (.ref b) ∧ H b = some (.lst vs) ∧ vs.length = ys.length ∧
      ∀ v y, Rp g F v y → ∃ M', Sta g F M' (jn Mv G) (upd H b (.lst (vs ++ [v]))) σ (ts.set i (.l (xs.set k (.l (ys ++ [.z y]))))) := by
  obtain ⟨v0, M1, M2, vs0, e1, r, s1, s2, dd, q, ev, back⟩ := st.slot e (fun z => nomatch z)
  have hc := st.hc
  cases r with
  | @l _ Mc a ws _ h1 h2 h3 h4 =>
    obtain ⟨w, A1, A2, ew, rk, t1, t2, dA, backk⟩ := h4.pick ek
    cases rk with
    | @l _ B b vs _ b1 b2 b3 b4 =>
      have mb : Mc b = some (.lst vs) := t1 _ _ b1
      have m1b : M1 b = some (.lst vs) := h2 _ _ mb
      have hb : H b = some (.lst vs) := hc.mh _ _ (s1 _ _ m1b)
      have ab : a ≠ b := fun z => by rw [← z] at mb; rw [h3] at mb; cases mb
      have dv1 : Dj Mv M1 := (hc.mg.sub s1 jn_l).symm
      refine ⟨a, ws, b, vs, e1, hc.mh _ _ (s1 _ _ h1), h4.length, ew, hb, b4.length, fun v y rv => ?_⟩
      have A2b : A2 b = none := dA.ne b1
      have ra : RO g F (upd A1 b (.lst (vs ++ [v]))) (.ref b) (.l (ys ++ [.z y])) := .l (M' := B) upd_same (same_off b2 b3) b3 (b4.append (.cons (M1 := em) (M2 := em) (.z rv) .nil Same.empty Same.empty Dj.em_l) Dj.em_r (Same.refl _) Same.empty)
      have rs : ROs g F (upd Mc b (.lst (vs ++ [v]))) (ws.set k (.ref b)) (xs.set k (.l (ys ++ [.z y]))) := backk F (upd A1 b (.lst (vs ++ [v]))) (.ref b) (.l (ys ++ [.z y])) (upd Mc b (.lst (vs ++ [v]))) (Same.refl _) ra (dj_upd_l dA A2b) (upd_mono t1) (fun x o ex => by
        by_cases hx : x = b
        · subst hx; rw [A2b] at ex; cases ex
        · rw [upd_ne hx]; exact t2 _ _ ex)
      have wk : ws.set k (.ref b) = ws := by
        refine List.ext_getElem? fun j => ?_
        by_cases hj : k = j
        · subst hj
          obtain ⟨hk, _⟩ := List.getElem?_eq_some_iff.mp ew
          rw [List.getElem?_set_self hk, ew]
        · rw [List.getElem?_set_ne hj]
      rw [wk] at rs
      have rr : RO g F (upd (del M1 b) b (.lst (vs ++ [v]))) (.ref a) (.l (xs.set k (.l (ys ++ [.z y])))) := by
        rw [upd_del]
        refine .l (M' := upd Mc b (.lst (vs ++ [v]))) (by rw [upd_ne ab]; exact h1) (upd_mono h2) (by rw [upd_ne ab]; exact h3) rs
      have dcv : Dj (del M1 b) Mv := dv1.symm.sub (del_same _ _) (Same.refl _)
      obtain ⟨M', st2, _⟩ := st.close (Mc := del M1 b) (Mc' := del M1 b) (Mr := Mv) d e1 s1 s2 dd q back m1b (del_same _ _) (del_at _ _) jn_l (jn_r dcv) dcv rr
      exact ⟨M', st2⟩
def napO (k : Nat) (y : D) (ts : List T) (i : Nat) : Option T → R T
  | some (.l xs) => match xs[k]? with
    | some (.l ys) => if ys.length < lim ∧ flatD y = true then .ok (.z .non) (ts.set i (.l (xs.set k (.l (ys ++ [.z y]))))) else .bad
    | _ => .bad
  | _ => .bad
def ixT (j : Int) : Option T → Option Nat
  | some (.l xs) => ixN xs.length j
  | _ => none
def napD (i : Nat) (ts : List T) (d : D) (y : Option D) : R T := match toI d, y with
  | some j, some y => match ixT j ts[i]? with
    | some k => napO k y ts i ts[i]?
    | none => .bad
  | _, _ => .bad
def napM (i : Nat) (mk : M D) (mc : List T → Option D) : M T := fun ts => if isL i ts = true then (mk >>= fun d ts1 => napD i ts1 d (mc ts1)) ts else .bad
theorem pe_napM {X : Cx} {W : WX} {e b : Expr} {x : Str} {p pos apos cpos : Pos} {i : Nat} {mk : M D} {mc : List T → Option D} (hu : X.A.units + 1 < cLine) (hN : X.N[i]? = some x) (hv : Vis X.env.scope x) (hd : (x == ("__debug__" : Str)) = false) (hcd : (x == ("__classdict__" : Str)) = false)
    (hk : PE X b (tZ (gx X) W mk)) (hm : PlainIx b) (he : PE X e (tAt (gx X) mc)) (hbase : attributeBase (.Subscript (.Name x p) b pos) "append" X.env (eval (.Subscript (.Name x p) b pos) X.env) = eval (.Subscript (.Name x p) b pos) X.env) (n : nst e = true) (hl : (apos.endLine == cpos.line) = true) :
    PE X (.Call (.Attribute (.Subscript (.Name x p) b pos) "append" apos) [e] [] cpos) (tD (gx X) W (napM i mk mc)) :=
  pe_imp (pe_bm PySem.F.plainAttrs_list PySem.F.slot_list_append PySem.F.type_list_append mt_append (pe_ix (ix_all hu) (pe_var hN hv hd hcd) hk hm) (pa_cons he pa_nil (star_of n _ _)) hbase (few1 n _ _) hl (star_of n _ _) rfl) fun σ H Q ⟨F, Mm, G, ts, st, k⟩ => by
    have k : KD (gx X) W F G σ Q (napM i mk mc ts) := k
    unfold napM at k
    by_cases hi : isL i ts = true
    · rw [if_pos hi] at k
      obtain ⟨xs0, e0⟩ := isL_eq hi
      obtain ⟨a, ws0, Mc0, e1, hH0, _⟩ := Sta.lst (Mv := em) st Dj.em_l e0
      refine ⟨.ref a, e1, ?_⟩
      refine tZ_then (K := KD (gx X) W F G σ Q) st id (fun _ _ z => z) k fun d ts1 _ k1 F1 M1 H1 v s1 r st1 => ?_
      unfold napD at k1
      cases q1 : toI d with
      | none => rw [q1] at k1; exact k1.elim
      | some j =>
        rw [toI_eq q1] at r
        cases r
        cases q2 : mc ts1 with
        | none => rw [q1, q2] at k1; exact k1.elim
        | some y =>
          rw [q1, q2] at k1
          dsimp only at k1
          cases q3 : ts1[i]? with
          | none => rw [q3] at k1; exact k1.elim
          | some u =>
            cases u with
            | l xs =>
              rw [q3] at k1
              unfold ixT at k1
              dsimp only at k1
              cases q4 : ixN xs.length j with
              | none => rw [q4] at k1; exact k1.elim
              | some kk =>
                rw [q4] at k1
                unfold napO at k1
                dsimp only at k1
                cases q5 : xs[kk]? with
                | none => rw [q5] at k1; exact k1.elim
                | some w =>
                  cases w with
                  | l ys =>
                    rw [q5] at k1
                    dsimp only at k1
                    by_cases hz : ys.length < lim ∧ flatD y = true
                    · rw [if_pos hz] at k1
                      obtain ⟨a', ws, b', vs, e2, hH, lw, ewk, hb, lv, fin⟩ := Sta.lst2 (Mv := em) st1 Dj.em_l q3 q5
                      rw [e1] at e2; cases e2
                      have at_ : atI ws j = some (.ref b') := by unfold atI; rw [lw, q4]; exact ewk
                      refine .inl (.inl ⟨a, ws, j, .ref b', rfl, rfl, .of hH, at_, tyL (g := gx X) hb, ?_⟩)
                      refine ⟨F1, M1, G, ts1, y, st1, q2, fun u hu => ?_⟩
                      obtain ⟨M', st2⟩ := fin u y (hu.flat hz.2)
                      exact ⟨b', vs, u, rfl, rfl, hb, by rw [lv]; exact lim_lt' hz.1, k1 F1 em M' _ _ s1 (.z .non) st2 Dj.em_l⟩
                    · rw [if_neg hz] at k1; exact k1.elim
                  | _ => rw [q5] at k1; exact k1.elim
            | _ => rw [q3] at k1; exact k1.elim
    · rw [if_neg hi] at k; exact k.elim
/-! running them -/
@[simp] theorem napM_ap (i mk mc ts) : napM i mk mc ts = if isLO ts[i]? = true then (mk ts).and fun d ts1 => napD i ts1 d (mc ts1) else .bad := by
  unfold napM
  have : isL i ts = isLO ts[i]? := by unfold isL isLO; rfl
  rw [this]
  split
  · rw [bind_ap]
  · rfl
theorem napD_at {i : Nat} {ts : List T} {j : Int} {y : D} {xs ys : List T} {k : Nat} (h : ts[i]? = some (.l xs)) (hk : ixN xs.length j = some k) (hy : xs[k]? = some (.l ys)) (hl : ys.length < lim) (hf : flatD y = true) :
    napD i ts (.int j) (some y) = .ok (.z .non) (ts.set i (.l (xs.set k (.l (ys ++ [.z y]))))) := by
  unfold napD
  show (match ixT j ts[i]? with | some k => napO k y ts i ts[i]? | none => .bad) = _
  rw [h]
  unfold ixT
  dsimp only
  rw [hk]
  unfold napO
  dsimp only
  rw [hy]
  dsimp only
  rw [if_pos ⟨hl, hf⟩]
@[simp] theorem compO_ap (mi vs put mc me ts) : compO mi vs put mc me ts = (mi ts).and fun ds ts1 => (compRO vs put mc me ds ts1).and fun l ts2 => if l.length ≤ lim then .ok (.l l) ts2 else .bad := by
  unfold compO; rw [bind_ap]; congr 1; funext ds ts1; rw [bind_ap]; congr 1; funext l ts2; split <;> rfl
end Ar
/-! ArPa: sorted() of a list of pairs. -/
namespace Ar
open PySem PySem.Spec PyProof.Rows L2
def pD (p : Int × Int) : D := .tup [.int p.1, .int p.2]
def cdP (p : Int × Int) : Int := p.1 * 64 + p.2
def dcP (c : Int) : Int × Int := (c / 64, c % 64)
def okP (p : Int × Int) : Prop := (0 ≤ p.1 ∧ p.1 < 64) ∧ 0 ≤ p.2 ∧ p.2 < 64
instance (p) : Decidable (okP p) := by unfold okP; infer_instance
theorem dc_cd {p : Int × Int} (h : okP p) : dcP (cdP p) = p := by
  obtain ⟨a, b⟩ := p
  obtain ⟨⟨h1, h2⟩, h3, h4⟩ := h
  unfold dcP cdP
  dsimp only at *
  congr 1 <;> omega
def prK : D → Option (Int × Int)
  | .tup [.int i, .int j] => if okP (i, j) then some (i, j) else none
  | _ => none
def prsD : List D → Option (List (Int × Int))
  | [] => some []
  | d :: ds => match prK d, prsD ds with
    | some p, some ps => some (p :: ps)
    | _, _ => none
theorem prK_eq {d : D} {p : Int × Int} (h : prK d = some p) : d = pD p ∧ okP p := by
  unfold prK at h
  split at h
  · split at h
    · rename_i q; cases h; exact ⟨rfl, q⟩
    · cases h
  · cases h
theorem prsD_eq : ∀ {ds : List D} {ps : List (Int × Int)}, prsD ds = some ps → ds = ps.map pD ∧ ∀ p ∈ ps, okP p
  | [], ps, h => by cases h; exact ⟨rfl, fun _ h => nomatch h⟩
  | d :: ds, ps, h => by
    rw [prsD] at h
    split at h
    · rename_i p qs h1 h2
      cases h
      obtain ⟨e1, o1⟩ := prK_eq h1
      obtain ⟨e2, o2⟩ := prsD_eq h2
      refine ⟨by rw [List.map_cons, e1, e2], fun q hq => ?_⟩
      rcases List.mem_cons.mp hq with rfl | hq
      · exact o1
      · exact o2 q hq
    · cases h
theorem prsD_map : ∀ {ps : List (Int × Int)}, (∀ p ∈ ps, okP p) → prsD (ps.map pD) = some ps
  | [], _ => rfl
  | p :: ps, h => by
    have h1 : prK (pD p) = some p := by
      show (if okP (p.1, p.2) then some (p.1, p.2) else none) = _
      rw [if_pos (h p List.mem_cons_self)]
    rw [List.map_cons, prsD, h1, prsD_map fun q hq => h q (List.mem_cons_of_mem _ hq)]
def psort (ps : List (Int × Int)) : List (Int × Int) := (isort (ps.map cdP)).map dcP
theorem psort_unique {l m : List (Int × Int)} (p : l.Perm m) (h : l.Pairwise fun p q => cdP p ≤ cdP q) (o : ∀ p ∈ m, okP p) : l = psort m := by
  have e := sort_unique (p.map cdP) (List.pairwise_map.mpr h)
  unfold psort
  rw [← e, List.map_map]
  have : ∀ {l : List (Int × Int)}, (∀ p ∈ l, okP p) → l = l.map (dcP ∘ cdP) := fun {l} o => by
    induction l with
    | nil => rfl
    | cons x l ih =>
      rw [List.map_cons, ← ih fun q hq => o q (List.mem_cons_of_mem _ hq)]
      show _ = dcP (cdP x) :: l
      rw [dc_cd (o x List.mem_cons_self)]
  exact this fun q hq => o q (p.mem_iff.mp hq)
def oSortedP : D → Option T
  | .lst l => match prsD l with | some ps => if ps.length < 64 then some (.l (((psort ps).map pD).map T.z)) else none | none => none
  | _ => none
section
variable {g : Gx} {F : Hp}
theorem RpAll.perm {xs ys : List V} (p : ys.Perm xs) : ∀ {ds : List D}, RpAll g F xs ds → ∃ ds' : List D, ds'.Perm ds ∧ RpAll g F ys ds' := by
  induction p with
  | nil => intro ds r; cases r; exact ⟨[], List.Perm.refl _, .nil⟩
  | cons x p ih =>
    intro ds r
    cases r with
    | cons h t =>
      obtain ⟨ds', p', r'⟩ := ih t
      exact ⟨_, p'.cons _, .cons h r'⟩
  | swap x y l =>
    intro ds r
    cases r with
    | cons h t =>
      cases t with
      | cons h2 t =>
        exact ⟨_, List.Perm.swap _ _ _, .cons h2 (.cons h t)⟩
  | trans p1 p2 ih1 ih2 =>
    intro ds r
    obtain ⟨d1, q1, r1⟩ := ih2 r
    obtain ⟨d2, q2, r2⟩ := ih1 r1
    exact ⟨d2, q2.trans q1, r2⟩
theorem rp_tupI {H : Hp} (s : Same F H) {v : V} {p : Int × Int} (h : Rp g F v (pD p)) : TupI g.K H v [p.1, p.2] := by
  have h' : Rp g F v (.tup [.int p.1, .int p.2]) := h
  obtain ⟨a, xs, rfl, ha, ra⟩ := h'.tupS
  have ra' : RpAll g F xs ([p.1, p.2].map D.int) := ra
  rw [ra'.ints_inv] at ha
  exact ⟨a, rfl, Same.seqT s ha⟩
theorem rp_pairs {H : Hp} (s : Same F H) : ∀ {ys : List V} {ps : List (Int × Int)}, RpAll g F ys (ps.map pD) → (ys.Pairwise fun x y => ∀ n m, TupI g.K H x n → TupI g.K H y m → TS.code 64 n ≤ TS.code 64 m) → ps.Pairwise fun p q => cdP p ≤ cdP q
  | _, [], _, _ => .nil
  | ys, p :: ps, r, h => by
    cases r with
    | @cons v vs _ _ h1 t =>
      obtain ⟨a1, a2⟩ := List.pairwise_cons.mp h
      refine List.pairwise_cons.mpr ⟨fun q hq => ?_, rp_pairs s t a2⟩
      obtain ⟨i, hi⟩ := List.mem_iff_getElem?.mp hq
      obtain ⟨w, hw, rw'⟩ := t.get (i := i) (d := pD q) (by rw [List.getElem?_map, hi]; rfl)
      have k := a1 w (List.mem_of_getElem? hw) _ _ (rp_tupI s h1) (rp_tupI s rw')
      rw [code_pair, code_pair] at k
      exact k
theorem opSortedP : Call1 g (rSortU g.K 2 64) oSortedP := by
  intro F H x dx t Q s hx e q
  unfold oSortedP at e
  split at e
  · rename_i l
    split at e
    · rename_i ps hps
      obtain ⟨e1, ok⟩ := prsD_eq hps
      split at e
      · rename_i hl
        cases e
        obtain ⟨a, xs, rfl, ha, ra⟩ := hx.lst s
        refine ⟨a, xs, rfl, .of ha, by rw [ra.length, e1, List.length_map]; exact hl, fun x hx2 => ?_, fun ys p hp hs hn => ?_⟩
        · obtain ⟨i, hi⟩ := List.mem_iff_getElem?.mp hx2
          have hil : i < ps.length := by
            have := (List.getElem?_eq_some_iff.mp hi).1
            rw [ra.length, e1, List.length_map] at this
            exact this
          obtain ⟨w, hw, rw'⟩ := ra.get (i := i) (d := pD ps[i]) (by rw [e1, List.getElem?_map, List.getElem?_eq_getElem hil]; rfl)
          rw [hi] at hw
          cases hw
          refine ⟨_, rp_tupI s rw', rfl, ?_⟩
          have := ok _ (List.getElem_mem hil)
          intro z hz
          rcases List.mem_cons.mp hz with rfl | hz
          · exact this.1
          · rw [List.mem_singleton.mp hz]; exact this.2
        · obtain ⟨ds', p', r'⟩ := RpAll.perm hp ra
          rw [e1] at p'
          obtain ⟨ps', rfl, pp⟩ : ∃ ps' : List (Int × Int), ds' = ps'.map pD ∧ ps'.Perm ps := by
            have key : ∀ {A B : List D}, A.Perm B → ∀ {qs : List (Int × Int)}, B = qs.map pD → ∃ ps' : List (Int × Int), A = ps'.map pD ∧ ps'.Perm qs := fun {A B} p => by
              induction p with
              | nil => intro qs e; cases qs with
                | nil => exact ⟨[], rfl, .nil⟩
                | cons x y => cases e
              | cons x p ih => intro qs e; cases qs with
                | nil => cases e
                | cons y qs =>
                  rw [List.map_cons] at e
                  injection e with e1 e2
                  obtain ⟨ps', h1, h2⟩ := ih e2
                  exact ⟨y :: ps', by rw [List.map_cons, h1, e1], h2.cons _⟩
              | swap x y l => intro qs e; match qs, e with
                | [], e => cases e
                | [z], e => cases e
                | z1 :: z2 :: qs, e =>
                  rw [List.map_cons, List.map_cons] at e
                  injection e with e1 e2
                  injection e2 with e2 e3
                  exact ⟨z2 :: z1 :: qs, by rw [List.map_cons, List.map_cons, e1, e2, e3], .swap ..⟩
              | trans p1 p2 ih1 ih2 =>
                intro qs e
                obtain ⟨q1, a1, a2⟩ := ih2 e
                obtain ⟨q2, b1, b2⟩ := ih1 a1
                exact ⟨q2, b1, b2.trans a2⟩
            exact key p' rfl
          have e3 := psort_unique pp (rp_pairs s r' hs) ok
          rw [e3] at r'
          exact q.new r' p hn
      · cases e
    · cases e
  · cases e
end
section
variable {X : Cx} {W : WX} {a : Expr} {p pos : Pos} {ma : M D}
theorem c_sortedP (hc : X.calm = true) (hm : X.mg "sorted" = none) (hg : Gl X "sorted") (ha : PE X a (tV (gx X) W ma)) (n : nst a = true) : PE X (.Call (.Name "sorted" p) [a] [] pos) (tD (gx X) W (un1 oSortedP ma)) := pe_call1 (cr_sortT (by decide)) opSortedP hg hm (by decide +kernel) (by decide) (by decide) ha n
end
theorem oSortedP_pD {ps : List (Int × Int)} (h : ∀ p ∈ ps, okP p) (hl : ps.length < 64) : oSortedP (.lst (ps.map pD)) = some (.l (((psort ps).map pD).map .z)) := by
  show (match prsD (ps.map pD) with | some ps => if ps.length < 64 then some (T.l (((psort ps).map pD).map T.z)) else none | none => none) = _
  rw [prsD_map h]
  exact if_pos hl
end Ar
/-! ArPb: tables of the module, calls of a local that holds a def, displays with text keys, extend. -/
namespace Ar
open PySem PySem.Spec PyProof.Rows L2
def lookS {α : Type} (tab : List (Str × α)) (z : Str) : Option α := (tab.find? fun p => decide (p.1 = z)).map (·.2)
def KTab (K : PySem.W.Frag) (w : World) (mg : Str → Option Value) (x : Str) (tab : List (Str × D)) : Prop :=
  ∃ d es n, mg x = some (.ref d) ∧ KDict K w d es n ∧ (∀ z, lookS tab z = none → PySem.W.nsIn K d z = some none) ∧
    ∀ z dv, lookS tab z = some dv → ∃ u v, PySem.W.nsIn K d z = some (some u) ∧ RelV v u ∧ ∀ (P : Program) (F : Hp), Rp ⟨K, mg, P, w⟩ F v dv
def isFnD (x : Str) : D → Bool
  | .fn y => decide (y = x)
  | _ => false
def oInG (x : Str) (tab : List (Str × D)) (a b : D) : Option T := if isFnD x b = true then (match a with | .str z => some (.z (.bl (lookS tab z).isSome)) | _ => none) else none
def oNotInG (x : Str) (tab : List (Str × D)) (a b : D) : Option T := if isFnD x b = true then (match a with | .str z => some (.z (.bl (!(lookS tab z).isSome))) | _ => none) else none
def oIxG (x : Str) (tab : List (Str × D)) (a b : D) : Option T := if isFnD x a = true then (match b with | .str z => (lookS tab z).map .z | _ => none) else none
theorem isFnD_eq {x : Str} {d : D} (h : isFnD x d = true) : d = .fn x := by
  cases d with
  | fn y => rw [show isFnD x (.fn y) = decide (y = x) from rfl, decide_eq_true_eq] at h; rw [h]
  | _ => cases h
theorem Vh.fnA {g : Gx} {F H : Hp} {v : V} {x : Str} {a : Addr} (h : Vh g F H v (.fn x)) (e : g.mg x = some (.ref a)) : v = .ref a := by
  cases h with
  | r h => cases h with
    | fn h => rw [e] at h; cases h; rfl
section
variable {X : Cx} {W : WX} {a b e : Expr} {es : List Expr} {p p1 pos apos cpos : Pos} {x : Str} {tab : List (Str × D)} {ma : M D}
theorem pe_gtab (h : KTab X.K X.w X.mg x tab) (hg : Gl X x) (hd : (x == ("__debug__" : Str)) = false) : PE X (.Name x p) (tAt (gx X) (kA (.fn x))) := by
  obtain ⟨d, es, n, e1, D, h0, h1⟩ := h
  exact e_kA (pe_glob (v := .ref d) hg e1 rfl hd) fun _ => .fn e1
theorem ktab_in {K : PySem.W.Frag} {w : World} {mg : Str → Option Value} {d : Addr} {tab : List (Str × D)} (z : Str) (h0 : ∀ z, lookS tab z = none → PySem.W.nsIn K d z = some none)
    (h1 : ∀ z dv, lookS tab z = some dv → ∃ u v, PySem.W.nsIn K d z = some (some u) ∧ RelV v u ∧ ∀ (P : Program) (F : Hp), Rp ⟨K, mg, P, w⟩ F v dv) : ∃ r, PySem.W.nsIn K d z = some r ∧ r.isSome = (lookS tab z).isSome := by
  cases q : lookS tab z with
  | none => exact ⟨none, h0 z q, rfl⟩
  | some dv =>
    obtain ⟨u, v, e, _⟩ := h1 z dv q
    exact ⟨some u, e, rfl⟩
theorem e_inG (h : KTab X.K X.w X.mg x tab) (hg : Gl X x) (hd : (x == ("__debug__" : Str)) = false) (ha : PE X a (tV (gx X) W ma)) (hm : behindInMarks .In (.Name x p) = false) : PE X (.Compare a [.In] [.Name x p] pos) (tD (gx X) W (binA (oInG x tab) ma (kA (.fn x)))) := by
  have hb := pe_gtab (p := p) h hg hd
  obtain ⟨d, es, n, e1, D, h0, h1⟩ := h
  refine e_cmpA (op_in_kd D) ?_ ha hb hm
  intro F H x1 y1 dx dy t Q s hx hy k q
  unfold oInG at k
  split at k
  · rename_i hi
    have := isFnD_eq hi
    subst this
    split at k
    · rename_i z
      cases k
      obtain ⟨r, e2, e3⟩ := ktab_in z h0 h1
      refine ⟨z, r, hx.str, hy.fnA e1, e2, ?_⟩
      rw [e3]
      exact q.val (.bl _)
    · cases k
  · cases k
theorem t_inG (h : KTab X.K X.w X.mg x tab) (hg : Gl X x) (hd : (x == ("__debug__" : Str)) = false) (ha : PE X a (tV (gx X) W ma)) (hm : behindInMarks .In (.Name x p) = false) : PT X (.Compare a [.In] [.Name x p] pos) (tB (gx X) W (tsB (binA (oInG x tab) ma (kA (.fn x))))) := by
  have hb := pe_gtab (p := p) h hg hd
  obtain ⟨d, es, n, e1, D, h0, h1⟩ := h
  refine t_cmpA (op_in_kd D) ?_ ha hb hm
  intro F H x1 y1 dx dy t Q s hx hy k q
  unfold oInG at k
  split at k
  · rename_i hi
    have := isFnD_eq hi
    subst this
    split at k
    · rename_i z
      cases k
      obtain ⟨r, e2, e3⟩ := ktab_in z h0 h1
      refine ⟨z, r, hx.str, hy.fnA e1, e2, ?_⟩
      rw [e3]
      exact q.val (.bl _)
    · cases k
  · cases k
theorem t_notInG (h : KTab X.K X.w X.mg x tab) (hg : Gl X x) (hd : (x == ("__debug__" : Str)) = false) (ha : PE X a (tV (gx X) W ma)) (hm : behindInMarks .NotIn (.Name x p) = false) : PT X (.Compare a [.NotIn] [.Name x p] pos) (tB (gx X) W (tsB (binA (oNotInG x tab) ma (kA (.fn x))))) := by
  have hb := pe_gtab (p := p) h hg hd
  obtain ⟨d, es, n, e1, D, h0, h1⟩ := h
  refine t_cmpA (op_notIn_kd D) ?_ ha hb hm
  intro F H x1 y1 dx dy t Q s hx hy k q
  unfold oNotInG at k
  split at k
  · rename_i hi
    have := isFnD_eq hi
    subst this
    split at k
    · rename_i z
      cases k
      obtain ⟨r, e2, e3⟩ := ktab_in z h0 h1
      refine ⟨z, r, hx.str, hy.fnA e1, e2, ?_⟩
      rw [e3]
      exact q.val (.bl _)
    · cases k
  · cases k
theorem e_ixG {mc : List T → Option D} (h : KTab X.K X.w X.mg x tab) (hg : Gl X x) (hd : (x == ("__debug__" : Str)) = false) (hb : PE X b (tAt (gx X) mc)) (hm : PlainIx b) : PE X (.Subscript (.Name x p) b pos) (tD (gx X) W (binA (oIxG x tab) (see (kA (.fn x))) mc)) := by
  have ha := pe_atv (W := W) (pe_gtab (p := p) h hg hd)
  obtain ⟨d, es, n, e1, D, h0, h1⟩ := h
  refine pe_ixA ix_kdict ?_ ha hb hm
  intro F H x1 y1 dx dy t Q s hx hy k q
  unfold oIxG at k
  split at k
  · rename_i hi
    have := isFnD_eq hi
    subst this
    split at k
    · rename_i z
      cases q1 : lookS tab z with
      | none => rw [q1] at k; cases k
      | some dv =>
        rw [q1] at k
        cases k
        obtain ⟨u, v, e2, rv, rp⟩ := h1 z dv q1
        exact ⟨d, z, v, hx.fnA e1, hy.str, ⟨es, n, u, D.at_, D.lit, e2, rv⟩, q.val (rp _ _)⟩
    · cases k
  · cases k
/-! a call of a local that holds one of several defs -/
def callD (i : Nat) (fs : List (Str × (List T → R T))) (tks : List (Option Nat)) (ms : M (List T)) : M T := fun ts => match ts[i]? with
  | some (.z (.fn x)) => (match lookS fs x with | some f => callM f tks ms ts | none => .bad)
  | _ => .bad
theorem pe_callD {i k : Nat} {ps : List Str} {fs : List (Str × (List T → R T))} {tks : List (Option Nat)} {ms : M (List T)} (C : ∀ y f, lookS fs y = some f → Callee X.prog X.w X.K X.mg X.base k y ps f) (hr : Room k X.A)
    (hN : X.N[i]? = some x) (hv : Vis X.env.scope x) (hd : (x == ("__debug__" : Str)) = false) (hcd : (x == ("__classdict__" : Str)) = false) (tk : Takes X W) (ha : PA X (e :: es) (tAr (gx X) W tks ms)) (hl : tks.length = ps.length) (n : (e :: es).all nst = true) :
    PE X (.Call (.Name x p) (e :: es) [] pos) (tD (gx X) W (callD i fs tks ms)) := by
  rw [List.all_cons, Bool.and_eq_true] at n
  refine ⟨fun pins s σ H Q I h => ?_⟩
  obtain ⟨F, Mm, G, ts, st, kk⟩ := h
  have kk : KD (gx X) W F G σ Q (callD i fs tks ms ts) := kk
  unfold callD at kk
  split at kk
  · rename_i y q1
    split at kk
    · rename_i f q2
      obtain ⟨v, M1, M2, vs, e1, r, _⟩ := st.slot q1 (by intro z; cases z)
      cases r with
      | z r => cases r with
        | @fn a _ r =>
          obtain ⟨fa, fd, Fo, em, kp, bd⟩ := C y f q2
          have : (a : Addr) = fa := by
            have z := r.symm.trans em
            cases z; rfl
          subst this
          have ht := call_ok (n := ps.length) hl ⟨F, Mm, G, ts, st, kk⟩
          refine wpAny_Call_Name_kw (thn ((pe_var (pos := p) hN hv hd hcd).run pins s σ H (fun v H1 => v = .ref a ∧ H1 = H) I ⟨.ref a, e1, rfl, rfl⟩) fun u s1 ⟨v, H1, I1, r1, q1⟩ => ?_)
          obtain ⟨rfl, rfl⟩ := q1
          cases r1
          refine PySem.W.callWith_K (h₀ := X.base) I.ok.mod.kin kp (thn (ha.run pos pins s1 σ _ _ I1 ht) fun us s2 ⟨vs, H2, I2, r, q⟩ => ⟨I2.kIn, ?_⟩) (star_of n.1 _ _) (star_all n.2 _ _)
          exact run_fnS (E := WE W) Fo hr bd (passAt tk σ) I2 r q
    · exact kk.elim
  · exact kk.elim
/-! {"a": 1, ..} -/
def PDc (X : Cx) (pos : Pos) (keys : List (Option Expr)) (values : List Expr) (kvs : List (Str × Int)) : Prop := ∃ trs, PPs X pos keys values trs ∧ ∀ σ H Q, Q (kvs.map fun q => (V.str q.1, V.int q.2)) H → tPairs trs σ H Q
theorem pd_nil : PDc X pos [] [] [] := ⟨[], pps_nil, fun _ _ _ h => h⟩
theorem pd_cons {k v : Expr} {keys : List (Option Expr)} {values : List Expr} {kvs : List (Str × Int)} {s : Str} {i : Int} (hk : PE X k (tC (.str s))) (hv : PE X v (tC (.int i))) (r : PDc X pos keys values kvs) : PDc X pos (some k :: keys) (v :: values) ((s, i) :: kvs) := by
  obtain ⟨trs, h, g⟩ := r
  refine ⟨_, pps_cons hk hv h, fun σ H Q q => ?_⟩
  exact g σ H _ q
def dspM (kvs : List (Str × Int)) : M T := fun ts => .ok (.dk (kvs.map fun q => (.inr q.1, .z (.int q.2)))) ts
theorem pe_dspM {keys : List (Option Expr)} {values : List Expr} {kvs : List (Str × Int)} (h : PDc X pos keys values kvs) (hall : keys.all (·.isSome) = true) (hl : keys.length = values.length) (h0 : keys ≠ []) (h15 : keys.length ≤ 15) (hk : kvs.length ≤ 15)
    (hm : mergeK [] (kvs.map fun q => (.inr q.1, V.int q.2)) = kvs.map fun q => (.inr q.1, V.int q.2)) : PE X (.Dict keys values pos) (tD (gx X) W (dspM kvs)) := by
  obtain ⟨trs, h, g⟩ := h
  refine pe_imp (pe_disp h hall hl h0 h15) fun σ H Q ⟨F, Mm, G, ts, st, kk⟩ => fun q hq => ?_
  refine g σ _ _ ⟨upd_same, kvs.map fun q => (.inr q.1, V.int q.2), by rw [List.map_map]; rfl, by rw [List.length_map]; exact hk, ?_⟩
  rw [hm]
  obtain ⟨st0, dj⟩ := st.newO (o := .dK []) hq
  obtain ⟨h2, st3, dj3⟩ := st0.turn (.dK (kvs.map fun q => (.inr q.1, V.int q.2))) dj
  refine kk F (upd em q (.dK (kvs.map fun q => (.inr q.1, V.int q.2)))) Mm _ _ (Same.refl _) (.dk (M' := em) upd_same Same.empty rfl (by rw [List.map_map, List.map_map]; rfl) ?_) st3 dj3
  have : ∀ l : List (Str × Int), ROs (gx X) F em ((l.map fun q => ((.inr q.1 : Key), V.int q.2)).map (·.2)) ((l.map fun q => ((.inr q.1 : Key), T.z (.int q.2))).map (·.2)) := fun l => by
    induction l with
    | nil => exact .nil
    | cons x l ih => exact .cons (M1 := em) (M2 := em) (.z (.int _)) ih (Same.refl _) (Same.refl _) Dj.em_l
  exact this kvs
/-! x.extend(list(e)) -/
def extM (i : Nat) (m : M D) : M T := fun ts => if isL i ts = true then (m >>= fun d ts1 => match d with
    | .lst ds => (match ts1[i]? with
      | some (.l xs) => if xs.length + ds.length ≤ lim then .ok (.z .non) (ts1.set i (.l (xs ++ ds.map .z))) else .bad
      | _ => .bad)
    | _ => .bad) ts else .bad
theorem pe_extM {i : Nat} {m : M D} (hN : X.N[i]? = some x) (hv : Vis X.env.scope x) (hd : (x == ("__debug__" : Str)) = false) (hcd : (x == ("__classdict__" : Str)) = false) (he : PE X e (tZ (gx X) W m)) (n : nst e = true) (hl : (apos.endLine == cpos.line) = true) :
    PE X (.Call (.Attribute (.Name x p) "extend" apos) [e] [] cpos) (tD (gx X) W (extM i m)) :=
  pe_imp (pe_bm PySem.F.plainAttrs_list PySem.F.slot_list_extend PySem.F.type_list_extend mt_extend (pe_var hN hv hd hcd) (pa_cons he pa_nil (star_of n _ _)) rfl (few1 n _ _) hl (star_of n _ _) rfl) fun σ H Q ⟨F, Mm, G, ts, st, k⟩ => by
    unfold extM at k
    by_cases hi : isL i ts = true
    · rw [if_pos hi] at k
      obtain ⟨xs0, e0⟩ := isL_eq hi
      obtain ⟨a, ws0, Mc0, e1, hH, _⟩ := Sta.lst (Mv := em) st Dj.em_l e0
      refine ⟨.ref a, e1, tyL (g := gx X) hH, ?_⟩
      refine tZ_then (K := KD (gx X) W F G σ Q) st id (fun _ _ z => z) k fun d ts1 _ k1 F1 M1 H1 v s1 r st1 => ?_
      cases d with
      | lst ds =>
        cases q : ts1[i]? with
        | none => simp only [q] at k1; exact k1.elim
        | some u =>
          cases u with
          | l xs =>
            simp only [q] at k1
            by_cases hz : xs.length + ds.length ≤ lim
            · rw [if_pos hz] at k1
              obtain ⟨a', ws, Mc, e2, hH1, rs, dc, fin⟩ := Sta.lst (Mv := em) st1 Dj.em_l q
              rw [e1] at e2; cases e2
              obtain ⟨b, zs, rfl, hb, rz⟩ := (Vh.r (H := H1) r).lst st1.hc.fh
              obtain ⟨M', st2, dj2⟩ := fin (ws ++ zs) (xs ++ ds.map .z) Mc em (rs.append (ROs.of_all (M := em) rz) Dj.em_r (Same.refl _) Same.empty) jn_l Same.empty Dj.em_r
              exact ⟨a, b, ws, zs, rfl, rfl, hH1, hb, by rw [rs.length, rz.length]; exact lim_le hz, k1 F1 em M' _ _ s1 (.z .non) st2 Dj.em_l⟩
            · rw [if_neg hz] at k1; exact k1.elim
          | _ => simp only [q] at k1; exact k1.elim
      | _ => exact k1.elim
    · rw [if_neg hi] at k; exact k.elim
end
/-! a table of the module, by what the top has left -/
def EntOk (mg : Str → Option Value) (e : DictEntry) (p : Str × D) : Prop := (∃ t, e.key = .str p.1 t) ∧ ∃ v, RelV v e.val ∧ ∀ (K : PySem.W.Frag) (P : Program) (w : World) (F : Hp), Rp ⟨K, mg, P, w⟩ F v p.2
def EntsOk (mg : Str → Option Value) : List DictEntry → List (Str × D) → Prop
  | [], [] => True
  | e :: es, p :: ps => EntOk mg e p ∧ EntsOk mg es ps
  | _, _ => False
theorem ents_find {mg : Str → Option Value} (z : Str) : ∀ {es : List DictEntry} {ps : List (Str × D)}, EntsOk mg es ps →
    (lookS ps z = none → es.find? (fun e => e.key.isStr z) = none) ∧ (∀ dv, lookS ps z = some dv → ∃ e v, es.find? (fun e => e.key.isStr z) = some e ∧ RelV v e.val ∧ ∀ (K : PySem.W.Frag) (P : Program) (w : World) (F : Hp), Rp ⟨K, mg, P, w⟩ F v dv) ∧ es.any (·.refKey) = false
  | [], [], _ => ⟨fun _ => rfl, fun dv h => (by cases h), rfl⟩
  | e :: es, p :: ps, ⟨⟨⟨t, hk⟩, v, rv, rp⟩, h⟩ => by
    obtain ⟨i0, i1, i2⟩ := ents_find z h
    have hr : e.refKey = false := by unfold DictEntry.refKey; rw [hk]
    by_cases q : p.1 = z
    · have f : e.key.isStr z = true := by rw [hk, ← q]; exact beq_self_eq_true p.1
      have l : lookS (p :: ps) z = some p.2 := by unfold lookS; rw [List.find?_cons_of_pos (by simpa using q)]; rfl
      refine ⟨fun c => (by rw [l] at c; cases c), fun dv c => ?_, (by rw [List.any_cons, hr, i2]; rfl)⟩
      rw [l] at c
      cases c
      exact ⟨e, v, List.find?_cons_of_pos (p := fun e : DictEntry => e.key.isStr z) f, rv, rp⟩
    · have f : ¬ e.key.isStr z = true := by rw [hk]; intro c; exact q (eq_of_beq c)
      have l : lookS (p :: ps) z = lookS ps z := by unfold lookS; rw [List.find?_cons_of_neg (by simpa using q)]
      rw [l, List.find?_cons_of_neg (p := fun e : DictEntry => e.key.isStr z) f]
      exact ⟨i0, i1, (by rw [List.any_cons, hr, i2]; rfl)⟩
theorem ktab_mk {K : PySem.W.Frag} {w : World} {h : Heap} {mg : Str → Option Value} {x : Str} {d : Addr} {es : Array DictEntry} {n : Nat} {tab : List (Str × D)} (X : K.In h) (G : h.Ns mainGlobals mg) (gd : PySem.W.nsIn K mainGlobals x = some (some (.ref d)))
    (lk : K.lookup d = some ⟨.type "dict", none, .dict es n, #[]⟩) (kl : PySem.W.KeysLit w.params es.toList) (low : (d == sysModules) = false) (eo : EntsOk mg es.toList tab) : KTab K w mg x tab := by
  refine ⟨d, es, n, PySem.W.mg_of X G gd, ⟨lk, kl, low⟩, fun z q => ?_, fun z dv q => ?_⟩
  · obtain ⟨i0, _, i2⟩ := ents_find z eo
    unfold PySem.W.nsIn
    rw [lk]
    dsimp only
    rw [i0 q]
    dsimp only
    rw [i2]; rfl
  · obtain ⟨_, i1, _⟩ := ents_find z eo
    obtain ⟨e, v, e1, rv, rp⟩ := i1 dv q
    refine ⟨e.val, v, ?_, rv, fun P F => rp K P w F⟩
    unfold PySem.W.nsIn
    rw [lk]
    dsimp only
    rw [e1]
theorem ent_fn {mg : Str → Option Value} {hs : Int} {s : Str} {t : Tok} {f : Addr} {y : Str} (h : mg y = some (.ref f)) : EntOk mg ⟨hs, .str s t, .ref f⟩ (s, .fn y) := ⟨⟨t, rfl⟩, .ref f, rfl, fun _ _ _ _ => .fn h⟩
theorem ent_int {mg : Str → Option Value} {hs : Int} {s : Str} {t u : Tok} {i : Int} : EntOk mg ⟨hs, .str s t, .int i u⟩ (s, .int i) := ⟨⟨t, rfl⟩, .int i, ⟨u, rfl⟩, fun _ _ _ _ => .int i⟩
/-! tuple(range(a, b)) -/
section
variable {X : Cx} {W : WX} {a b : Expr} {p pos : Pos}
def oTR2 (d e : D) : Option T := match d, e with
  | .int i, .int j => if RgOk i j then some (.z (.tup (upto i j))) else none
  | _, _ => none
theorem e_tupRg2 {p2 pos2 : Pos} {ma mb : M D} (hc : X.calm = true) (hm : X.mg "tuple" = none) (hg : Gl X "tuple") (hm2 : X.mg "range" = none) (hg2 : Gl X "range") (ha : PE X a (tZ (gx X) W ma)) (hb : PE X b (tV (gx X) W mb)) (n : nst a = true) (n2 : nst b = true) :
    PE X (.Call (.Name "tuple" p) [.Call (.Name "range" p2) [a, b] [] pos2] [] pos) (tD (gx X) W (binZ oTR2 ma mb)) :=
  pe_imp (pe_tupRg hc hg hm (prg_2 hg2 hm2 ha hb (star_of n _ _) (star_of n2 _ _) (by rw [star_of n2]; rfl))) fun σ H Q ⟨F, Mm, G, ts, st, k⟩ => by
    unfold binZ at k
    refine tZ_then (K := KD (gx X) W F G σ Q) st id (fun _ _ z => z) k fun x ts1 _ k1 F1 M1 H1 v1 s1 r1 st1 => ?_
    refine tV_then (K := KD (gx X) W F1 G σ Q) st1 id (fun _ _ z => z) (KD.mono s1 k1) fun y ts2 _ k2 F2 M2 H2 v2 s2 r2 st2 => ?_
    obtain ⟨t, q, out⟩ := KD.opt st2 (KD.mono s2 k2)
    unfold oTR2 at q
    split at q
    · cases r1; cases r2.int
      refine ⟨_, _, rfl, rfl, ?_⟩
      split at q
      · rename_i hr
        cases q
        exact ⟨hr, fun q hq => out.newT st2.hc.fh rgV_rp q hq⟩
      · cases q
    · cases q
end
@[simp] theorem oTR2_int (i j) : oTR2 (.int i) (.int j) = if RgOk i j then some (.z (.tup (nD (uI i j)))) else none := by
  show (if RgOk i j then some (T.z (.tup (upto i j))) else none) = _
  rw [upto_nD]
def exT (i : Nat) (ds : List D) (ts : List T) : Option T → R T
  | some (.l xs) => if xs.length + ds.length ≤ lim then .ok (.z .non) (ts.set i (.l (xs ++ ds.map .z))) else .bad
  | _ => .bad
def exD (i : Nat) (ts : List T) : D → R T
  | .lst ds => exT i ds ts ts[i]?
  | _ => .bad
@[simp] theorem exD_lst (i ts ds) : exD i ts (.lst ds) = exT i ds ts ts[i]? := rfl
@[simp] theorem exT_l (i ds ts xs) : exT i ds ts (some (.l xs)) = if xs.length + ds.length ≤ lim then .ok (.z .non) (ts.set i (.l (xs ++ ds.map .z))) else .bad := rfl
@[simp] theorem extM_ap (i m ts) : extM i m ts = if isLO ts[i]? = true then (m ts).and fun d ts1 => exD i ts1 d else .bad := by
  unfold extM
  have e1 : isL i ts = isLO ts[i]? := by
    unfold isL isLO
    cases ts[i]? with
    | none => rfl
    | some t => cases t <;> rfl
  rw [e1]
  split
  · rw [bind_ap]
    congr 1
  · rfl
def cdT (fs : List (Str × (List T → R T))) (tks : List (Option Nat)) (ms : M (List T)) (ts : List T) : Option T → R T
  | some (.z (.fn x)) => (match lookS fs x with | some f => callM f tks ms ts | none => .bad)
  | _ => .bad
def cdF (tks : List (Option Nat)) (ms : M (List T)) (ts : List T) : Option (List T → R T) → R T
  | some f => callM f tks ms ts
  | none => .bad
@[simp] theorem cdT_fn (fs tks ms ts x) : cdT fs tks ms ts (some (.z (.fn x))) = cdF tks ms ts (lookS fs x) := by
  show (match lookS fs x with | some f => callM f tks ms ts | none => R.bad) = _
  cases lookS fs x <;> rfl
@[simp] theorem cdF_some (tks ms ts f) : cdF tks ms ts (some f) = callM f tks ms ts := rfl
@[simp] theorem callD_ap (i fs tks ms ts) : callD i fs tks ms ts = cdT fs tks ms ts ts[i]? := by
  unfold callD cdT
  rfl
@[simp] theorem dspM_ap (kvs ts) : dspM kvs ts = .ok (.dk (kvs.map fun q => (.inr q.1, .z (.int q.2)))) ts := rfl
@[simp] theorem oInG_fn (x tab z) : oInG x tab (.str z) (.fn x) = some (.z (.bl (lookS tab z).isSome)) := by
  unfold oInG
  rw [if_pos (by show decide (x = x) = true; exact decide_eq_true rfl)]
@[simp] theorem oNotInG_fn (x tab z) : oNotInG x tab (.str z) (.fn x) = some (.z (.bl (!(lookS tab z).isSome))) := by
  unfold oNotInG
  rw [if_pos (by show decide (x = x) = true; exact decide_eq_true rfl)]
@[simp] theorem oIxG_fn (x tab z) : oIxG x tab (.fn x) (.str z) = (lookS tab z).map .z := by
  unfold oIxG
  rw [if_pos (by show decide (x = x) = true; exact decide_eq_true rfl)]
section
variable {P : Program} {w : World} {K : PySem.W.Frag} {mg : Str → Option Value} {base : Heap} {k : Nat} {ps : List Str}
theorem cal_nil : ∀ y f, lookS ([] : List (Str × (List T → R T))) y = some f → Callee P w K mg base k y ps f := fun _ _ h => by cases h
theorem cal_cons {x : Str} {f : List T → R T} {fs : List (Str × (List T → R T))} (C : Callee P w K mg base k x ps f) (h : ∀ y g, lookS fs y = some g → Callee P w K mg base k y ps g) : ∀ y g, lookS ((x, f) :: fs) y = some g → Callee P w K mg base k y ps g := fun y g e => by
  by_cases q : x = y
  · subst q
    unfold lookS at e
    rw [List.find?_cons_of_pos (by simp)] at e
    cases e
    exact C
  · refine h y g ?_
    unfold lookS at e ⊢
    rw [List.find?_cons_of_neg (by simpa using q)] at e
    exact e
end
end Ar
/-! ArPl: min() of a list of tuples of whole numbers; a text split. -/
namespace Ar
open PySem PySem.Spec PyProof.Rows L2
abbrev Tp := PySem.W.Tup Int
def tpD (t : Tp) : D := .tup (t.items.map .int)
def tpsD : List D → Option (List Tp)
  | [] => some []
  | .tup ds :: r => match intsD ds, tpsD r with
    | some ns, some ts => some (⟨ns⟩ :: ts)
    | _, _ => none
  | _ => none
theorem tpsD_eq : ∀ {ds : List D} {ts : List Tp}, tpsD ds = some ts → ds = ts.map tpD
  | [], _, h => by rw [tpsD] at h; cases h; rfl
  | d :: ds, ts, h => by
    cases d with
    | tup l =>
      rw [tpsD] at h
      split at h
      · rename_i ns rs h1 h2
        cases h
        rw [List.map_cons, ← tpsD_eq h2, ints_eq h1]; rfl
      · cases h
    | _ => cases h
theorem tpsD_map : ∀ ts : List Tp, tpsD (ts.map tpD) = some ts
  | [] => rfl
  | t :: ts => by
    rw [List.map_cons]
    show (match intsD (t.items.map .int), tpsD (ts.map tpD) with | some ns, some us => some ((⟨ns⟩ : Tp) :: us) | _, _ => none) = _
    rw [ints_of, tpsD_map ts]
def oMinT : D → Option T
  | .lst l => match tpsD l with | some (x :: xs) => some (.z (tpD (PySem.W.minOf x xs))) | _ => none
  | _ => none
theorem pys_ints : ∀ ns : List Int, D.pys (ns.map D.int) = some (ns.map PyData.int)
  | [] => rfl
  | n :: r => by rw [List.map_cons, D.pys, pys_ints r]; rfl
theorem pys_tps : ∀ ts : List Tp, D.pys (ts.map tpD) = some (ts.map PySem.W.Datum.toD)
  | [] => rfl
  | t :: r => by
    rw [List.map_cons, D.pys, pys_tps r]
    show (match (match D.pys (t.items.map .int) with | some x => some (PyData.tuple x) | none => none), _ with | some x, some y => some (x :: y) | _, _ => none) = _
    rw [pys_ints]; rfl
theorem toD_inj {a b : Tp} (h : PySem.W.Datum.toD a = PySem.W.Datum.toD b) : a = b := by
  have e := PySem.W.Datum.eqv a b
  rw [← h, PySem.W.Datum.eqv] at e
  exact of_decide_eq_true (e.symm.trans (decide_eq_true rfl))
def rMinT (K : PySem.W.Frag) : List V → Hp → VK → Prop := fun vs H Q => ∃ (a : Addr) (xs : List V) (x : Tp) (ts : List Tp), vs = [V.ref a] ∧ SqL K H a xs ∧ DpAll K H xs ((x :: ts).map PySem.W.Datum.toD) ∧
  ∀ (i : Nat) (v : V), xs[i]? = some v → (x :: ts)[i]? = some (PySem.W.minOf x ts) → Q v H
theorem cr_minT {X : Cx} (hc : X.calm = true) (hu : X.A.units + 65 < cLine) : CallR X (.builtin "min") (rMinT X.K) := by
  intro pins s σ H vs us Q I r h
  obtain ⟨a, xs, x, ts, rfl, hs, hd, q⟩ := h
  obtain ⟨its, rv, hl, _⟩ := I.list hs
  rw [Vals.ref1 r]
  have HA : PySem.W.HoldAll s.heap its (x :: ts) := Dp.readsAll I _ xs its hd rv
  refine PySem.W.min_list_datum (I.ok.hd hc) hl.isList HA (by show _ + 1 + 1 < _; omega) fun i v h' tk hi hv hk => ?_
  replace hi : its[i]? = some v := by simpa using hi
  obtain ⟨w, hw, rw'⟩ : ∃ w, xs[i]? = some w ∧ RelV w v := by
    cases q2 : xs[i]? with
    | none => have := Vals.none_of rv q2; rw [hi] at this; cases this
    | some w =>
      obtain ⟨u, hu', ru⟩ := Vals.get rv q2
      rw [hi] at hu'
      cases hu'
      exact ⟨w, rfl, ru⟩
  obtain ⟨t, ht, as, Ht⟩ := HA.at hi
  obtain ⟨bs, Hv⟩ := hv
  have e := toD_inj (PyProof.Rows.reads_det (fun b o e _ => hk b o e) Ht Hv).1
  rw [← e] at ht
  exact ⟨w, H, I.kept hk, rw', q i w hw ht⟩
section
variable {g : Gx} {F : Hp}
theorem opMinT : Call1 g (rMinT g.K) oMinT := by
  intro F H x dx t Q s hx e q
  unfold oMinT at e
  split at e
  · rename_i l
    split at e
    · rename_i y ys hps
      have e1 := tpsD_eq hps
      cases e
      obtain ⟨a, xs, rfl, ha, ra⟩ := hx.lst s
      rw [e1] at ra
      refine ⟨a, xs, y, ys, rfl, .of ha, RpAll.dp s ra (pys_tps _), fun i v hv hi => ?_⟩
      obtain ⟨w, hw, rw'⟩ := ra.get (i := i) (d := tpD (PySem.W.minOf y ys)) (by rw [List.getElem?_map, hi]; rfl)
      rw [hv] at hw
      cases hw
      exact q.val rw'
    · cases e
  · cases e
end
section
variable {X : Cx} {W : WX} {a : Expr} {p pos : Pos} {ma : M D}
theorem c_minT (hc : X.calm = true) (hu : X.A.units + 65 < cLine) (hm : X.mg "min" = none) (hg : Gl X "min") (ha : PE X a (tV (gx X) W ma)) (n : nst a = true) : PE X (.Call (.Name "min" p) [a] [] pos) (tD (gx X) W (un1 oMinT ma)) := pe_call1 (cr_minT hc hu) opMinT hg hm (by decide +kernel) (by decide) (by decide) ha n
end
def oSplit (x y : D) : Option T := match x, y with
  | .str a, .str b => if (b.length == 0) = false ∧ a.length + 2 ≤ lim then some (.l ((sD (Txt.split a b)).map T.z)) else none
  | _, _ => none
theorem RpAll.strsD {g : Gx} {F : Hp} : ∀ l : List Str, RpAll g F (l.map V.str) (sD l)
  | [] => .nil
  | x :: l => .cons (.str x) (RpAll.strsD l)
section
variable {X : Cx} {W : WX} {o e : Expr} {apos cpos : Pos} {ma mb : M D}
theorem c_split (ho : PE X o (tZ (gx X) W ma)) (he : PE X e (tV (gx X) W mb)) (hbase : attributeBase o "split" X.env (eval o X.env) = eval o X.env) (n : nst e = true) (hl : (apos.endLine == cpos.line) = true) :
    PE X (.Call (.Attribute o "split" apos) [e] [] cpos) (tD (gx X) W (binZ oSplit (recvS ma) mb)) :=
  pe_imp (pe_bm PySem.F.plainAttrs_str PySem.F.slot_str_split PySem.F.type_str_split mt_split ho (pa_cons he pa_nil (star_of n _ _)) hbase (few1 n _ _) hl (star_of n _ _) rfl) fun σ H Q ⟨F, Mm, G, ts, st, k⟩ => by
    unfold binZ at k
    refine recv_then st k fun a ts1 k1 F1 M1 H1 s1 st1 => ⟨rfl, ?_⟩
    refine tV_then (K := KD (gx X) W F1 G σ Q) st1 id (fun _ _ z => z) (KD.mono s1 k1) fun y ts2 _ k2 F2 M2 H2 v2 s2 r2 st2 => ?_
    obtain ⟨t, q, out⟩ := KD.opt st2 (KD.mono s2 k2)
    cases y with
    | str b =>
      unfold oSplit at q
      dsimp only at q
      split at q
      · rename_i h
        cases q
        cases r2 with
        | r r2 =>
          cases r2
          exact ⟨a, b, rfl, rfl, h.1, lim_le h.2, out.new (RpAll.strsD _)⟩
      · cases q
    | _ => cases q
end
@[simp] theorem oSplit_str (a b) : oSplit (.str a) (.str b) = if (b.length == 0) = false ∧ a.length + 2 ≤ lim then some (.l (sT (Txt.split a b))) else none := by
  rw [← sD_sT]; rfl
end Ar
/-! ArPm: a try whose first clause, with a name, takes all that its body raises; what stands behind it is never asked. -/
namespace Ar
open PySem PySem.Spec PyProof.Rows L2
/-- what is asked of an exception: class C takes it; slot i is the clause's name -/
def wFst (K : PySem.W.Frag) (C : Value) (i : Nat) (su : Addr → Value → Option Addr → TS) (D : Ends) : WX := fun k d σ H =>
  PySem.W.exmOne K k C = some true ∧ ∀ a, H a = none → su a k d ⟨fun σ' H' => D.nx (σ'.set i none) H', D.rt, fun σ' H' => D.bk (σ'.set i none) H', fun σ' H' => D.ct (σ'.set i none) H'⟩ (σ.set i (some (.ref a))) H
theorem sky_off {X : Cx} {B : Heap} {h : Heap} {a : Addr} {o : Obj} {vs : Array Value} (ff : h.FunFrames B (X.env :: X.outer)) (e : h.get? a = some o) (dd : o.data = .fields vs) : a ∉ frs (X.env :: X.outer) := fun z => by
  obtain ⟨_, o', e', n⟩ := ff.mem z
  cases e.symm.trans e'
  exact n _ dd
section
variable {X : Cx} {x n : Str} {C : Value} {i : Nat} {body suite : List Stmt} {b₀ : Stmt} {np pos pos' : Pos} {tb : WX → TS} {su : Addr → Value → Option Addr → TS} {more : List ExceptHandler}
theorem ps_try_fst (stk : X.stack = X.env :: X.outer) (fr : X.env.frame = some X.env.locals) (nd : X.N.Nodup) (at_ : X.N[i]? = some n) (loc : X.env.kindOf n = some .local) (nm : Names X x C)
    (B : ∀ (W : WX) (pn : List (Addr × Obj)) (xe : Value → Shared → Prop), Takes (X.tr pn xe) W → PassesOwn (model X.prog X.w) X.A X.env xe → PSs (X.tr pn xe) body (tb W))
    (U : ∀ (a : Addr) (oe : Obj) (k : Value) (d : Option Addr) (pn : List (Addr × Obj)), Zc k d oe → (∃ vs, oe.data = .fields vs) → PSs (X.suite a ((a, oe) :: pn)) (b₀ :: suite) (su a k d)) :
    PS X (.Try body (.ExceptHandler (some (.Name x np)) (some n) (b₀ :: suite) pos' :: more) [] [] pos) (fun D σ H => tb (wFst X.K C i su D) D σ H) := by
  refine ⟨fun pins s σ H D I h => wpAny_Try_except ?_⟩
  have ok := I.ok
  have AF : X.A.frames = some (X.env :: X.outer) := by rw [ok.frames, stk]
  have run := (B (wFst X.K C i su D) (X.pn ++ pins) (fun e s₁ => wpAny (model X.prog X.w) X.A (noteFrame e X.env) (fun _ s₂ => wpAny (model X.prog X.w) X.A (setFlight e none) (fun _ s₃ =>
    wpAny (model X.prog X.w) X.A (handleBy e X.env (.ExceptHandler (some (.Name x np)) (some n) (b₀ :: suite) pos' :: more)) (SP X pins D) X.xe s₃) X.xe s₂) X.xe s₁) ?caught PassesOwn.looking).run [] s σ H D (I.toTry _) h
  case caught =>
    rintro _ s' ⟨a, G0, sI, pins', σ', H', k, d, rfl, J0, nb, up, sky0, na, os, ag, e1, yes⟩
    have J : Inv X pins σ' H' sI := J0.ofTry ok
    rw [stk] at sky0
    show wpAny (model X.prog X.w) X.A (noteFrame (.ref a) X.env) _ _ _
    refine Sky.land Zc.steady AF fr sky0 fun h3 fl3 up3 => ?_
    have J3 : Inv X pins σ' H' { s' with heap := h3 } := J.landed nb fl3.1 (up.trans up3) os ag
    obtain ⟨o3, v3, t3, z3, d3⟩ := fl3.there
    have off := sky_off (X := X) fl3.2.2.1 t3 d3
    have offL : a ≠ X.env.locals := fun z => off (List.mem_filterMap.mpr ⟨X.env, List.mem_cons_self, fr.trans (congrArg some z.symm)⟩)
    have offF : a ∉ X.fs := fun hm => by
      obtain ⟨v, hv, q⟩ := List.mem_filterMap.mp hm
      exact off (List.mem_filterMap.mpr ⟨v, .tail _ hv, q⟩)
    have S3 := J3.suite t3 d3 na offL offF
    refine wpAny_handleBy_cons (codeAny_handlers_test ?_) (fun q => nomatch q)
    have see : ∀ {Q : Value → Shared → Prop} {E : Value → Shared → Prop}, Q C { s' with heap := h3 } → wpAny (model X.prog X.w) (X.A.mark (some (.ref a))) (eval (.Name x np) X.env) Q E { s' with heap := h3 } := fun q => by
      rcases nm with ⟨g1, g2, g3 | ⟨g3, g4, g5⟩⟩
      · exact ld_glob (X := X.suite a ((a, o3) :: (X.pn ++ pins))) S3 g1 g3 q g2
      · exact ld_blt (X := X.suite a ((a, o3) :: (X.pn ++ pins))) S3 g1 g3 g4 q g5 g2
    have looks : PySem.W.Looks (model X.prog X.w) h3 (typeOf (.ref a)) k := fun _ _ _ _ kk q => wpAny_typeOf_ref (kk _ _ t3) (z3.1 ▸ q)
    refine see ((PySem.W.exm_one (M := model X.prog X.w) J3.kIn looks e1).here ?_)
    refine codeAny_handlers_suite_as (HandSPX.lands_againZ fl3 fun h4 fl4 up4 => ?_)
    have J4 : Inv X pins σ' H' { s' with heap := h4 } := J.landed nb fl4.1 ((up.trans up3).trans up4) os ag
    obtain ⟨o4, v4, t4, z4, d4⟩ := fl4.there
    refine store_ok (X := X.suite a ((a, o4) :: (X.pn ++ pins))) (v := .ref a) (J4.suite t4 d4 na offL offF) nd at_ (.inl loc) rfl (fun s5 S5 => ?_) (.inr loc)
    refine wpAny_mono ((U a o4 k d (X.pn ++ pins) z4 ⟨v4, d4⟩).run [] s5 _ H' _ S5 (yes a na)) (fun f s6 out => ?_) (fun _ _ z => z.elim)
    have shut : ∀ {σ6 : L2.St} {H6 : Hp} {Q : Shared → Prop}, Inv (X.suite a ((a, o4) :: (X.pn ++ pins))) [] σ6 H6 s6 → (∀ s7, Inv X pins (σ6.set i none) H6 s7 → Q s7) →
        wpAny (model X.prog X.w) X.A (do bindName X.env n .none; unbindBehindTheSuite X.env n pos') (fun _ s7 => Q s7) X.xe s6 := fun S6 q => gone_ok (S6.unsuite ok) nd at_ loc q
    cases f with
    | ret u => obtain ⟨v6, σ6, H6, S6, r6, q6⟩ := out; exact shut S6 fun s7 J7 => ⟨v6, _, H6, J7, r6, q6⟩
    | next => obtain ⟨σ6, H6, S6, q6⟩ := out; exact shut S6 fun s7 J7 => ⟨_, H6, J7, q6⟩
    | brk => obtain ⟨σ6, H6, S6, q6⟩ := out; exact shut S6 fun s7 J7 => ⟨_, H6, J7, q6⟩
    | cont => obtain ⟨σ6, H6, S6, q6⟩ := out; exact shut S6 fun s7 J7 => ⟨_, H6, J7, q6⟩
  refine wpAny_mono run (fun f s1 out => ?_) (fun _ _ z => z)
  cases f with
  | ret u => obtain ⟨v, σ', H', J', r, q⟩ := out; exact ⟨v, σ', H', J'.ofTry ok, r, q⟩
  | next => obtain ⟨σ', H', J', q⟩ := out; exact wpAny_execs_nil ⟨σ', H', J'.ofTry ok, q⟩
  | brk => obtain ⟨σ', H', J', q⟩ := out; exact ⟨σ', H', J'.ofTry ok, q⟩
  | cont => obtain ⟨σ', H', J', q⟩ := out; exact ⟨σ', H', J'.ofTry ok, q⟩
end
/-! the mirror -/
def tryF (i : Nat) (cat : Str → Option Bool) (m : S) (s : Str → S) : S := fun ts => match m ts with
  | .ex e ts' => (match cat e with
    | some true => if i < ts'.length then fixT i (s e (ts'.set i .gone)) else .bad
    | _ => .bad)
  | r => r
section
variable {X : Cx} {W : WX} {bs : List Nat} {pos np pos' : Pos} {y n : Str} {i : Nat} {body suite : List Stmt} {b₀ : Stmt} {m : S} {s : Str → S} {cat : Str → Option Bool} {more : List ExceptHandler}
theorem ps_tryF (hs : X.stack = X.env :: X.outer) (hfr : X.env.frame = some X.env.locals) (hN : X.N.Nodup) (hi : X.N[i]? = some n) (hln : X.env.kindOf n = some .local) (hg : Gl X y) (hd : (y == ("__debug__" : Str)) = false) (hC : CatT X.K X.mg y cat) (hib : i ∉ bs)
    (hb : ∀ (W' : WX) (pn : List (Addr × Obj)) (xe : Value → Shared → Prop), Takes (X.tr pn xe) W' → PassesOwn (model X.prog X.w) X.A X.env xe → PSs (X.tr pn xe) body (tS (gx X) W' bs m))
    (hsu : ∀ (e : Str) (a : Addr) (oe : Obj) (C : Addr) (pn : List (Addr × Obj)), X.mg e = some (.ref C) → Zc (.ref C) none oe → (∃ vs, oe.data = .fields vs) → PSs (X.suite a ((a, oe) :: pn)) (b₀ :: suite) (tX i a (tS (gx X) W0 (i :: bs) (s e)))) :
    PS X (.Try body (.ExceptHandler (some (.Name y np)) (some n) (b₀ :: suite) pos' :: more) [] [] pos) (tS (gx X) W bs (tryF i cat m s)) := by
  obtain ⟨D0, hD, hcat⟩ := hC
  refine ps_imp (ps_try_fst (C := .ref D0) (tb := fun W' => tS (gx X) W' bs m) (su := fun a k d D σ H => ∃ e C, X.mg e = some (.ref C) ∧ k = .ref C ∧ d = none ∧ tX i a (tS (gx X) W0 (i :: bs) (s e)) D σ H) hs hfr hN hi hln ⟨hg, hd, .inl hD⟩ hb
    (fun a oe k d pn hz hf => ⟨fun pins s1 σ H D I ⟨e, C, he, hk, hdd, q⟩ => by
      subst hk; subst hdd
      exact (hsu e a oe C pn he hz hf).run pins s1 σ H D I q⟩)) fun D σ H ⟨F, Mm, G, ts, sa, k⟩ => ⟨F, Mm, G, ts, sa, ?_⟩
  have k : KS (gx X) W bs F G σ D (tryF i cat m s ts) := k
  unfold tryF at k
  cases q : m ts with
  | bad => rw [q] at k; exact k
  | nx t => rw [q] at k; exact k
  | bk t => rw [q] at k; exact k
  | ct t => rw [q] at k; exact k
  | rt v t => rw [q] at k; exact k
  | ex e us =>
    rw [q] at k
    intro F1 M1 H1 σ1 C s1 st1 p1 he
    have lu : σ1.length = us.length := st1.len
    cases qc : cat e with
    | none => simp only [qc] at k; exact k.elim
    | some b => cases b with
      | false => simp only [qc] at k; exact k.elim
      | true =>
        simp only [qc] at k
        by_cases hl : i < us.length
        · rw [if_pos hl] at k
          refine ⟨hcat e true C qc he, fun a _ => ⟨e, C, he, rfl, rfl, List.getElem?_set_self (by omega), F1, M1, G, us.set i .gone, st1.gone, ?_⟩⟩
          have off : ∀ {j}, j ∈ bs → i ≠ j := fun hj z => hib (z ▸ hj)
          have pr : ∀ {σ2 : L2.St}, Pin (i :: bs) (σ1.set i (some (.ref a))) σ2 → Pin bs σ σ2 := fun hp j hj => by
            rw [hp j (.tail _ hj), List.getElem?_set_ne (off hj), p1 j hj]
          have pw : ∀ {σ2 : L2.St}, Pin (i :: bs) (σ1.set i (some (.ref a))) σ2 → Pin bs σ (σ2.set i none) := fun hp j hj => by
            rw [List.getElem?_set_ne (off hj)]; exact pr hp j hj
          cases qs : s e (us.set i .gone) with
          | bad => rw [qs] at k; exact k.elim
          | ex c t => rw [qs] at k; exact k.elim
          | rt v t => rw [qs] at k; intro F2 Mv M2 H2 σ2 v2 s2 r2 st2 dj p2; exact k F2 Mv M2 H2 σ2 v2 (s1.trans s2) r2 st2 dj (pr p2)
          | nx t => rw [qs] at k; intro F2 M2 H2 σ2 s2 st2 p2; exact k F2 M2 H2 _ (s1.trans s2) st2.gone (pw p2)
          | bk t => rw [qs] at k; intro F2 M2 H2 σ2 s2 st2 p2; exact k F2 M2 H2 _ (s1.trans s2) st2.gone (pw p2)
          | ct t => rw [qs] at k; intro F2 M2 H2 σ2 s2 st2 p2; exact k F2 M2 H2 _ (s1.trans s2) st2.gone (pw p2)
        · rw [if_neg hl] at k; exact k.elim
end
/-! if, of what isinstance tells -/
def tKt (i : Nat) (a : Addr) (b : Bool) : TT := fun σ H Q => σ[i]? = some (some (.ref a)) ∧ Q b H
def KT (X : Cx) (ex : Expr) (i : Nat) (a : Addr) (o : Option Bool) : Prop := ∀ b, o = some b → PT X ex (tKt i a b)
def KW (X : Cx) (ex : Expr) (i : Nat) (a : Addr) (o : Option Bool) : Prop := ∀ b, o = some b → PW X ex (tKt i a b)
section
variable {X : Cx} {W : WX} {bs : List Nat} {pos : Pos} {i : Nat} {a : Addr} {o q : Option Bool} {ex fx : Expr} {es : List Expr} {m n : S} {b1 b2 : List Stmt}
theorem kt_val (h : KE X ex i a o) (he : ∀ whole, isTrue ex X.env whole = (do let v ← whole; standAt ex.pos; holding [v] (truthy v))) : KT X ex i a o := fun b hb =>
  ⟨fun pins s σ H Q I ⟨f, k⟩ => (pt_val (h b hb) he).run pins s σ H Q I ⟨f, b, rfl, k⟩⟩
theorem kt_not (h : KT X ex i a o) : KT X (.UnaryOp .Not ex pos) i a (oNot o) := fun b hb => by
  cases o with
  | none => cases hb
  | some c => cases hb; exact ⟨fun pins s σ H Q I ⟨f, k⟩ => (pt_not (h c rfl)).run pins s σ H Q I ⟨f, k⟩⟩
theorem kt_w (h : KW X ex i a o) : KT X ex i a o := fun b hb => (h b hb).pt
theorem kw_or1 (h : KT X ex i a o) : KW X (.BoolOp .Or [ex] pos) i a o := fun b hb => pw_or1 (h b hb)
theorem kw_or (h : KT X ex i a o) (h2 : KW X (.BoolOp .Or (fx :: es) pos) i a q) : KW X (.BoolOp .Or (ex :: fx :: es) pos) i a (oOr o q) := fun b hb => by
  cases o with
  | none => cases hb
  | some c => cases q with
    | none => cases hb
    | some d =>
      cases hb
      refine ⟨fun wh pins s σ H Q I ⟨f, k⟩ => (pw_or (h c rfl) (h2 d rfl)).run wh pins s σ H Q I ⟨f, ?_⟩⟩
      cases c with
      | true => exact k
      | false => exact ⟨f, k⟩
theorem ps_ifKE (h : KT X ex i a o) (h1 : PSs X b1 (tX i a (tS (gx X) W bs m))) (h2 : PSs X b2 (tX i a (tS (gx X) W bs n))) :
    PS X (.If ex b1 b2 pos) (tX i a (tS (gx X) W bs (bySome o fun b => if b = true then m else n))) := by
  cases o with
  | none => exact ps_X ps_badS
  | some b =>
    refine ⟨fun pins s σ H D I ⟨f, k⟩ => (ps_if (h b rfl) h1 h2).run pins s σ H D I ⟨f, ?_⟩⟩
    cases b with
    | true => exact ⟨f, k⟩
    | false => exact ⟨f, k⟩
end
/-! a list of what isinstance tells -/
def allS : List (Option Bool) → Option (List Bool)
  | [] => some []
  | o :: os => o.bind fun b => (allS os).map fun bs => b :: bs
def tKs (i : Nat) (a : Addr) (bs : List Bool) : TA := fun σ H Q => σ[i]? = some (some (.ref a)) ∧ Q (bs.map V.bl) H
def KA (X : Cx) (es : List Expr) (i : Nat) (a : Addr) (os : List (Option Bool)) : Prop := ∀ bs, allS os = some bs → PA X es (tKs i a bs)
theorem rp_bls {g : Gx} {F : Hp} : ∀ bs : List Bool, RpAll g F (bs.map V.bl) (bs.map D.bl)
  | [] => .nil
  | b :: bs => .cons (.bl b) (rp_bls bs)
def byAll (o : Option (List Bool)) (s : List Bool → S) : S := match o with
  | some b => s b
  | none => badS
section
variable {X : Cx} {W : WX} {bs : List Nat} {pos p pos' : Pos} {i : Nat} {a : Addr} {o : Option Bool} {os : List (Option Bool)} {ex : Expr} {es : List Expr}
theorem ka_nil : KA X [] i a [] := fun bs h => by
  cases h
  exact ⟨fun pos pins s σ H Q I ⟨_, k⟩ => pa_nil.run pos pins s σ H Q I k⟩
theorem ka_cons (h : KE X ex i a o) (r : KA X es i a os) (hs : starEach (ex :: es) X.env = (false, eval ex X.env) :: starEach es X.env) : KA X (ex :: es) i a (o :: os) := fun bs hb => by
  have hb : (o.bind fun b => (allS os).map fun bs => b :: bs) = some bs := hb
  cases o with
  | none => cases hb
  | some b => cases q : allS os with
    | none => rw [q] at hb; cases hb
    | some cs =>
      rw [q] at hb; cases hb
      exact ⟨fun pos pins s σ H Q I ⟨f, k⟩ => (pa_cons (h b rfl) (r cs q) hs).run pos pins s σ H Q I ⟨f, f, k⟩⟩
theorem ke_bl {b : Bool} {j : Nat} : KE X (.Constant (.bool b) j p) i a (some b) := fun c h => by
  cases h
  exact pe_imp pe_bl fun σ H Q k => k.2
theorem ps_setKL {j : Nat} {x : Str} (h : KA X es i a os) (hN : X.N.Nodup) (hi : X.N[j]? = some x) (hx : Loc X.env.scope x) (hs : swapsWith (.List es p) (some (.Name x pos')) pos.line X.env = pure false)
    (hf : X.fn x = true ∨ X.env.scope.names.lookup x = some .local) (hb : j ∉ bs) (hl : os.length ≤ 1000) : PS X (.Assign [.Name x pos'] (.List es p) pos) (tX i a (tS (gx X) W bs (byAll (allS os) fun cs => setS j (kT (.lst (cs.map D.bl)))))) := by
  cases q : allS os with
  | none => exact ps_X ps_badS
  | some cs =>
    have ll : cs.length = os.length := by
      have : ∀ (os : List (Option Bool)) (cs : List Bool), allS os = some cs → cs.length = os.length := fun os => by
        induction os with
        | nil => intro cs h; cases h; rfl
        | cons o os ih =>
          intro cs h
          have h : (o.bind fun b => (allS os).map fun bs => b :: bs) = some cs := h
          cases o with
          | none => cases h
          | some b => cases z : allS os with
            | none => rw [z] at h; cases h
            | some ds => rw [z] at h; cases h; rw [List.length_cons, List.length_cons, ih ds z]
      exact this os cs q
    refine ps_imp (ps_set hN hi hx (pe_lst (h cs q)) hs hf) fun D σ H ⟨f, F, Mm, G, ts, sa, k⟩ => ⟨f, ?_, fun r hr => ?_⟩
    · rw [List.length_map, ll]; exact lim_le (by unfold lim; omega)
    · obtain ⟨s0, st0⟩ := sa.newF (o := .lst (cs.map V.bl)) hr
      have k : KS (gx X) W bs F G σ D (setS j (kT (.lst (cs.map Ar.D.bl))) ts) := k
      by_cases hl : j < ts.length
      · have e0 : setS j (kT (.lst (cs.map Ar.D.bl))) ts = .nx (ts.set j (.z (.lst (cs.map Ar.D.bl)))) := by
          show (if j < ts.length then RS.nx (ts.set j (.z (.lst (cs.map Ar.D.bl)))) else .bad) = _
          rw [if_pos hl]
        rw [e0] at k
        obtain ⟨M', st2⟩ := st0.assignZ (d := .lst (cs.map Ar.D.bl)) (.lst upd_same (rp_bls cs)) hl
        exact k _ M' _ _ s0 st2 (Pin.set hb)
      · have e0 : setS j (kT (.lst (cs.map Ar.D.bl))) ts = .bad := by
          show (if j < ts.length then RS.nx (ts.set j (.z (.lst (cs.map Ar.D.bl)))) else .bad) = _
          rw [if_neg hl]
        rw [e0] at k; exact k.elim
end
end Ar
/-! ArPc: own objects: a field read; ways into an owned tree and back. -/
namespace Ar
open PySem PySem.Spec PyProof.Rows L2
/-! rows of keys and things -/
section
variable {κ α β : Type} [DecidableEq κ]
def getA (f : κ) : List (κ × α) → Option α
  | [] => none
  | (g, x) :: r => if g = f then some x else getA f r
def putA (f : κ) (v : α) : List (κ × α) → List (κ × α)
  | [] => [(f, v)]
  | (g, x) :: r => if g = f then (g, v) :: r else (g, x) :: putA f v r
theorem putA_same {f : κ} {v : α} : ∀ {l : List (κ × α)}, getA f l = some v → putA f v l = l
  | [], h => by cases h
  | (g, x) :: r, h => by
    rw [getA] at h
    rw [putA]
    by_cases q : g = f
    · rw [if_pos q] at h; cases h; rw [if_pos q]
    · rw [if_neg q] at h; rw [if_neg q, putA_same h]
theorem getA_put (f : κ) (v : α) : ∀ (l : List (κ × α)) (k : κ), getA k (putA f v l) = if f = k then some v else getA k l
  | [], k => by rw [putA, getA]; rfl
  | (g, x) :: r, k => by
    rw [putA]
    by_cases q : g = f
    · rw [if_pos q, getA, getA]
      subst q
      by_cases h : g = k
      · simp [h]
      · simp [h]
    · rw [if_neg q, getA, getA, getA_put f v r k]
      by_cases h : g = k
      · rw [if_pos h, if_pos h]
        rw [if_neg (fun e => q (h.trans e.symm))]
      · rw [if_neg h, if_neg h]
theorem putA_keys {f : κ} {v : α} {t : β} : ∀ {xs : List (κ × α)} {ys : List (κ × β)}, xs.map (·.1) = ys.map (·.1) → (putA f v xs).map (·.1) = (putA f t ys).map (·.1)
  | [], [], _ => rfl
  | (a, x) :: xs, (b, y) :: ys, e => by
    rw [List.map_cons, List.map_cons] at e
    injection e with e1 e2
    simp only at e1
    subst e1
    rw [putA, putA]
    by_cases q : a = f
    · rw [if_pos q, if_pos q, List.map_cons, List.map_cons, e2]
    · rw [if_neg q, if_neg q, List.map_cons, List.map_cons, putA_keys e2]
  | [], _ :: _, e => by cases e
  | _ :: _, [], e => by cases e
end
theorem lookup_getA (f : Str) : ∀ l : List (Str × V), l.lookup f = getA f l
  | [] => rfl
  | (g, x) :: r => by
    rw [getA, List.lookup]
    by_cases q : g = f
    · subst q; rw [if_pos rfl]; simp
    · rw [if_neg q]
      have : (f == g) = false := by simpa using fun e => q e.symm
      rw [this]
      exact lookup_getA f r
theorem putF_putA (f : Str) (v : V) : ∀ l : List (Str × V), putF f v l = putA f v l
  | [] => rfl
  | (g, x) :: r => by rw [putF, putA, putF_putA f v r]
theorem valV_getA (k : Key) : ∀ l : List (Key × V), valV l k = getA k l
  | [] => rfl
  | (g, x) :: r => by
    rw [getA, ← valV_getA k r]
    by_cases q : g = k
    · subst q; simp [valV]
    · rw [if_neg q]; simp [valV, List.find?, q]
theorem getK_getA (k : Key) : ∀ l : List (Key × D), getK l k = getA k l
  | [] => rfl
  | (g, x) :: r => by
    rw [getA, ← getK_getA k r]
    by_cases q : g = k
    · subst q; simp [getK]
    · rw [if_neg q]; simp [getK, List.find?, q]
section
variable {g : Gx} {F F' H M : Hp} {κ : Type} [DecidableEq κ]
theorem RpAll.getA {f : κ} {d : D} : ∀ {xs : List (κ × V)} {ys : List (κ × D)}, xs.map (·.1) = ys.map (·.1) → RpAll g F (xs.map (·.2)) (ys.map (·.2)) → Ar.getA f ys = some d → ∃ v, Ar.getA f xs = some v ∧ Rp g F v d
  | [], [], _, _, h => by cases h
  | (a, x) :: xs, (b, y) :: ys, e, r, h => by
    rw [List.map_cons, List.map_cons] at e r
    injection e with e1 e2
    simp only at e1
    subst e1
    rw [Ar.getA] at h
    cases r with
    | cons r1 r2 =>
      by_cases q : a = f
      · rw [if_pos q] at h
        cases h
        exact ⟨x, by rw [Ar.getA, if_pos q], r1⟩
      · rw [if_neg q] at h
        obtain ⟨v, h1, h2⟩ := RpAll.getA e2 r2 h
        exact ⟨v, by rw [Ar.getA, if_neg q]; exact h1, h2⟩
  | [], _ :: _, e, _, _ => by cases e
  | _ :: _, [], e, _, _ => by cases e
/-- one of an owned row of keys in the hand -/
theorem ROs.pickA {f : κ} {t : T} : ∀ {M : Hp} {xs : List (κ × V)} {ys : List (κ × T)}, xs.map (·.1) = ys.map (·.1) → ROs g F M (xs.map (·.2)) (ys.map (·.2)) → Ar.getA f ys = some t →
    ∃ v M1 M2, Ar.getA f xs = some v ∧ RO g F M1 v t ∧ Same M1 M ∧ Same M2 M ∧ Dj M1 M2 ∧
      ∀ F' M1' v' t' M', Same F F' → RO g F' M1' v' t' → Dj M1' M2 → Same M1' M' → Same M2 M' → ROs g F' M' ((putA f v' xs).map (·.2)) ((putA f t' ys).map (·.2))
  | _, [], [], _, _, h => by cases h
  | M, (a, x) :: xs, (b, y) :: ys, e, r, h => by
    rw [List.map_cons, List.map_cons] at e r
    injection e with e1 e2
    simp only at e1
    subst e1
    rw [Ar.getA] at h
    cases r with
    | @cons _ A B _ _ _ _ h1 h2 h3 h4 h5 =>
      by_cases q : a = f
      · rw [if_pos q] at h
        cases h
        refine ⟨x, A, B, by rw [Ar.getA, if_pos q], h1, h3, h4, h5, fun F' M1' v' t' M' s r d s1 s2 => ?_⟩
        rw [putA, putA, if_pos q, if_pos q, List.map_cons, List.map_cons]
        exact .cons r (h2.mono s) s1 s2 d
      · rw [if_neg q] at h
        obtain ⟨u, M1, M2, e1, r, s1, s2, d, back⟩ := ROs.pickA e2 h2 h
        have dA2 : Dj A M2 := h5.sub (Same.refl _) s2
        refine ⟨u, M1, jn A M2, by rw [Ar.getA, if_neg q]; exact e1, r, s1.trans h4, jn_sub h3 (s2.trans h4), dj_jn_r (h5.sub (Same.refl _) s1).symm d, fun F' M1' v' t' M' s r' d' sa sb => ?_⟩
        have dA1 : Dj A M1' := (d'.sub (Same.refl _) jn_l).symm
        have d12 : Dj M1' M2 := d'.sub (Same.refl _) (jn_r dA2)
        have k := back F' M1' v' t' (jn M1' M2) s r' d12 jn_l (jn_r d12)
        rw [putA, putA, if_neg q, if_neg q, List.map_cons, List.map_cons]
        exact .cons (M1 := A) (M2 := jn M1' M2) (h1.mono s) k (jn_l.trans sb) (jn_sub sa ((jn_r dA2).trans sb)) (dj_jn_r dA1 dA2)
  | _, [], _ :: _, e, _, _ => by cases e
  | _, _ :: _, [], e, _, _ => by cases e
/-- a new one behind an owned row -/
theorem ROs.newA {f : κ} {v : V} {t : T} : ∀ {A B M : Hp} {xs : List (κ × V)} {ys : List (κ × T)}, xs.map (·.1) = ys.map (·.1) → ROs g F A (xs.map (·.2)) (ys.map (·.2)) → Ar.getA f ys = none → RO g F B v t → Dj A B → Same A M → Same B M →
    ROs g F M ((putA f v xs).map (·.2)) ((putA f t ys).map (·.2))
  | A, B, M, [], [], _, _, _, r, d, s1, s2 => .cons (M1 := B) (M2 := em) r .nil s2 Same.empty Dj.em_r
  | A, B, M, (a, x) :: xs, (b, y) :: ys, e, r, h, rv, d, s1, s2 => by
    rw [List.map_cons, List.map_cons] at e r
    injection e with e1 e2
    simp only at e1
    subst e1
    rw [Ar.getA] at h
    cases r with
    | @cons _ A1 B1 _ _ _ _ h1 h2 h3 h4 h5 =>
      by_cases q : a = f
      · rw [if_pos q] at h; cases h
      · rw [if_neg q] at h
        rw [putA, putA, if_neg q, if_neg q, List.map_cons, List.map_cons]
        have dB : Dj B1 B := d.sub h4 (Same.refl _)
        have k := ROs.newA (M := jn B1 B) e2 h2 h rv dB jn_l (jn_r dB)
        exact .cons (M1 := A1) (M2 := jn B1 B) h1 k (h3.trans s1) (jn_sub (h4.trans s1) s2) (dj_jn_r h5 (d.sub h3 (Same.refl _)))
  | _, _, _, [], _ :: _, e, _, _, _, _, _, _ => by cases e
  | _, _, _, _ :: _, [], e, _, _, _, _, _, _ => by cases e
/-- an owned row less what has a key -/
theorem ROs.dropA {k : Key} : ∀ {M : Hp} {xs : List (Key × V)} {ys : List (Key × T)}, xs.map (·.1) = ys.map (·.1) → ROs g F M (xs.map (·.2)) (ys.map (·.2)) →
    (dropK xs k).map (·.1) = (ys.filter fun p => decide (p.1 ≠ k)).map (·.1) ∧ ROs g F M ((dropK xs k).map (·.2)) ((ys.filter fun p => decide (p.1 ≠ k)).map (·.2))
  | _, [], [], _, r => ⟨rfl, .nil⟩
  | M, (a, x) :: xs, (b, y) :: ys, e, r => by
    rw [List.map_cons, List.map_cons] at e r
    injection e with e1 e2
    simp only at e1
    subst e1
    cases r with
    | @cons _ A B _ _ _ _ h1 h2 h3 h4 h5 =>
      obtain ⟨k1, k2⟩ := ROs.dropA (k := k) e2 h2
      unfold dropK at k1 k2 ⊢
      by_cases q : a = k
      · rw [List.filter_cons_of_neg (by simp [q]), List.filter_cons_of_neg (by simp [q])]
        exact ⟨k1, k2.ext h4⟩
      · rw [List.filter_cons_of_pos (by simp [q]), List.filter_cons_of_pos (by simp [q])]
        refine ⟨by rw [List.map_cons, List.map_cons, k1], ?_⟩
        rw [List.map_cons, List.map_cons]
        exact .cons h1 k2 h3 h4 h5
  | _, [], _ :: _, e, _ => by cases e
  | _, _ :: _, [], e, _ => by cases e
end
/-! ### a field read -/
/-- what an own class asks: these names are no attributes of it -/
def ClsF (K : PySem.W.Frag) (mg : Str → Option Value) (c : Str) (ns : List Str) : Prop := ∃ C, mg c = some (.ref C) ∧ Cls K C ∧ ∀ f ∈ ns, NoAttr K C f
def oFld (c f : Str) : D → Option T
  | .ob c' fs => if c' = c then (getA f fs).map .z else none
  | _ => none
def rFld (K : PySem.W.Frag) (f : Str) : V → Hp → VK → Prop := fun x H1 Q => ∃ a C dx fs v, x = .ref a ∧ H1 a = some (.ins C dx fs) ∧ Cls K C ∧ NoAttr K C f ∧ fs.lookup f = some v ∧ Q v H1
theorem opFld {g : Gx} {c f : Str} {ns : List Str} (C : ClsF g.K g.mg c ns) (hf : f ∈ ns) : Op1 g (rFld g.K f) (oFld c f) := by
  intro F H x dx t Q s hx e q
  unfold oFld at e
  split at e
  · rename_i c' fs
    split at e
    · rename_i hc
      subst hc
      cases qg : getA f fs with
      | none => rw [qg] at e; cases e
      | some d =>
        rw [qg] at e; cases e
        cases hx with
        | r hx => cases hx with
          | @ob a C0 dx c fs' ds h1 h2 h3 h4 h5 =>
            obtain ⟨C1, e1, e2, e3⟩ := C
            have : C0 = C1 := by rw [h1] at e1; cases e1; rfl
            subst this
            obtain ⟨v, v1, v2⟩ := RpAll.getA h4 h5 qg
            exact ⟨a, C0, dx, fs', v, rfl, s _ _ h2, e2, e3 f hf, by rw [lookup_getA]; exact v1, q.val v2⟩
    · cases e
  · cases e
section
variable {X : Cx} {W : WX} {e : Expr} {pos : Pos} {ma : M D} {c f : Str} {ns : List Str}
theorem e_fld (C : ClsF X.K X.mg c ns) (hf : f ∈ ns) (ha : PE X e (tV (gx X) W ma)) (hb : attributeBase e f X.env (eval e X.env) = eval e X.env) : PE X (.Attribute e f pos) (tD (gx X) W (un1 (oFld c f) ma)) :=
  pe_imp (pe_fld ha hb) fun σ H Q h => one_V (R1' := rFld X.K f) (opFld C hf) h
end
@[simp] theorem oFld_ob (c f fs) : oFld c f (.ob c fs) = (getA f fs).map .z := if_pos rfl
@[simp] theorem getA_nil {κ α : Type} [DecidableEq κ] (f : κ) : getA f ([] : List (κ × α)) = none := rfl
theorem getA_cons {κ α : Type} [DecidableEq κ] (f g : κ) (x : α) (r : List (κ × α)) : getA f ((g, x) :: r) = if g = f then some x else getA f r := rfl
end Ar
/-! ArPd: ways into an owned tree: what stands there, how it is changed. -/
namespace Ar
open PySem PySem.Spec PyProof.Rows L2
inductive Stp where
  | f (c x : Str) | k (s : Key)
/-- the way p leads from v to w -/
def PV (g : Gx) (H : Hp) : V → List Stp → V → Prop
  | v, [], w => w = v
  | v, .f c x :: p, w => ∃ a C dx fs u, v = .ref a ∧ H a = some (.ins C dx fs) ∧ g.mg c = some (.ref C) ∧ fs.lookup x = some u ∧ PV g H u p w
  | v, .k s :: p, w => ∃ a kvs u, v = .ref a ∧ Rd H a (.dK kvs) ∧ valV kvs s = some u ∧ PV g H u p w
section
variable {g : Gx} {F H H' : Hp}
theorem PV.mono (s : Same H H') : ∀ {p : List Stp} {v w : V}, PV g H v p w → PV g H' v p w
  | [], _, _, h => h
  | .f c x :: p, _, _, ⟨a, C, dx, fs, u, e, h1, h2, h3, h4⟩ => ⟨a, C, dx, fs, u, e, s _ _ h1, h2, h3, PV.mono s h4⟩
  | .k x :: p, _, _, ⟨a, kvs, u, e, h1, h2, h3⟩ => ⟨a, kvs, u, e, Same.rdm s h1, h2, PV.mono s h3⟩
theorem PV.trans : ∀ {p q : List Stp} {u v w : V}, PV g H u p v → PV g H v q w → PV g H u (p ++ q) w
  | [], _, _, _, _, h, k => by cases h; exact k
  | .f c x :: p, _, _, _, _, ⟨a, C, dx, fs, u, e, h1, h2, h3, h4⟩, k => ⟨a, C, dx, fs, u, e, h1, h2, h3, PV.trans h4 k⟩
  | .k x :: p, _, _, _, _, ⟨a, kvs, u, e, h1, h2, h3⟩, k => ⟨a, kvs, u, e, h1, h2, PV.trans h3 k⟩
theorem PV.split : ∀ {p q : List Stp} {u w : V}, PV g H u (p ++ q) w → ∃ v, PV g H u p v ∧ PV g H v q w
  | [], _, u, _, h => ⟨u, rfl, h⟩
  | .f c x :: p, _, _, _, ⟨a, C, dx, fs, u, e, h1, h2, h3, h4⟩ => by
    obtain ⟨v, k1, k2⟩ := PV.split h4
    exact ⟨v, ⟨a, C, dx, fs, u, e, h1, h2, h3, k1⟩, k2⟩
  | .k x :: p, _, _, _, ⟨a, kvs, u, e, h1, h2, h3⟩ => by
    obtain ⟨v, k1, k2⟩ := PV.split h3
    exact ⟨v, ⟨a, kvs, u, e, h1, h2, k1⟩, k2⟩
theorem rd_inj {H : Hp} {a : Addr} {u w : HO} (h : Rd H a u) (k : Rd H a w) (n1 : ∀ o z, u ≠ .frz o z) (n2 : ∀ o z, w ≠ .frz o z) : u = w := by
  rcases h with h | ⟨o, h⟩ <;> rcases k with k | ⟨o2, k⟩
  · rw [h] at k; cases k; rfl
  · rw [h] at k; cases k; exact absurd rfl (n1 _ _)
  · rw [h] at k; cases k; exact absurd rfl (n2 _ _)
  · rw [h] at k; cases k; rfl
theorem PV.inj : ∀ {p : List Stp} {v w w' : V}, PV g H v p w → PV g H v p w' → w = w'
  | [], _, _, _, h, k => by cases h; cases k; rfl
  | .f c x :: p, _, _, _, ⟨a, C, dx, fs, u, e, h1, h2, h3, h4⟩, ⟨a', C', dx', fs', u', e', h1', h2', h3', h4'⟩ => by
    rw [e] at e'; cases e'
    rw [h1] at h1'; cases h1'
    rw [h3] at h3'; cases h3'
    exact PV.inj h4 h4'
  | .k x :: p, _, _, _, ⟨a, kvs, u, e, h1, h2, h3⟩, ⟨a', kvs', u', e', h1', h2', h3'⟩ => by
    rw [e] at e'; cases e'
    have := rd_inj h1 h1' (fun _ _ z => nomatch z) (fun _ _ z => nomatch z)
    cases this
    rw [h2] at h2'; cases h2'
    exact PV.inj h3 h3'
end
/-- a way from a slot, read: nothing happens -/
def tPth (g : Gx) (i : Nat) (p : List Stp) : TE := fun σ H Q => ∃ v0 w, σ[i]? = some (some v0) ∧ PV g H v0 p w ∧ Q w H
section
variable {X : Cx} {e : Expr} {pos : Pos} {i : Nat} {p : List Stp}
theorem p_name {x : Str} (hN : X.N[i]? = some x) (hv : Vis X.env.scope x) (hd : (x == ("__debug__" : Str)) = false) (hcd : (x == ("__classdict__" : Str)) = false) : PE X (.Name x pos) (tPth (gx X) i []) :=
  pe_imp (pe_var hN hv hd hcd) fun σ H Q ⟨v0, w, e1, h, q⟩ => ⟨v0, e1, by cases h; exact q⟩
theorem p_fld {c x : Str} {ns : List Str} (he : PE X e (tPth (gx X) i p)) (C : ClsF X.K X.mg c ns) (hf : x ∈ ns) (hb : attributeBase e x X.env (eval e X.env) = eval e X.env) : PE X (.Attribute e x pos) (tPth (gx X) i (p ++ [.f c x])) :=
  pe_imp (pe_fld he hb) fun σ H Q ⟨v0, w, e1, h, q⟩ => by
    obtain ⟨v, h1, a, C0, dx, fs, u, rfl, h2, h3, h4, h5⟩ := PV.split h
    cases h5
    obtain ⟨C1, e2, e3, e4⟩ := C
    have : C0 = C1 := by rw [show X.mg c = some (.ref C0) from h3] at e2; cases e2; rfl
    subst this
    exact ⟨v0, _, e1, h1, a, C0, dx, fs, w, rfl, h2, e3, e4 x hf, h4, q⟩
theorem p_key {s : Str} {j : Nat} {p1 : Pos} (hu : X.A.units + 1 < cLine) (he : PE X e (tPth (gx X) i p)) (hn : NoSl (.Constant (.str s) j p1)) : PE X (.Subscript e (.Constant (.str s) j p1) pos) (tPth (gx X) i (p ++ [.k (.inr s)])) :=
  pe_imp (pe_dget hu he pe_str hn) fun σ H Q ⟨v0, w, e1, h, q⟩ => by
    obtain ⟨v, h1, a, kvs, u, rfl, h2, h3, h4⟩ := PV.split h
    cases h4
    refine ⟨v0, _, e1, h1, ?_⟩
    exact ⟨a, w, rfl, .inl ⟨kvs, .inr s, h2, rfl, h3.symm⟩, q⟩
end
/-! ### the way in an owned tree -/
def T.getO : T → List Stp → Option T
  | t, [] => some t
  | .ob c' fs, .f c x :: p => if c' = c then (match getA x fs with | some t => T.getO t p | none => none) else none
  | .dk kvs, .k s :: p => (match getA s kvs with | some t => T.getO t p | none => none)
  | _, _ => none
termination_by _ p => p.length
def T.putO : T → List Stp → T → T
  | _, [], u => u
  | .ob c fs, .f _ x :: p, u => (match getA x fs with | some t => .ob c (putA x (T.putO t p u) fs) | none => .ob c fs)
  | .dk kvs, .k s :: p, u => (match getA s kvs with | some t => .dk (putA s (T.putO t p u) kvs) | none => .dk kvs)
  | t, _, _ => t
termination_by _ p _ => p.length
@[simp] theorem getO_nil (t : T) : T.getO t [] = some t := by rw [T.getO]
@[simp] theorem putO_nil (t u : T) : T.putO t [] u = u := by rw [T.putO]
theorem getO_f (c' fs c x p) : T.getO (.ob c' fs) (.f c x :: p) = if c' = c then (match getA x fs with | some t => T.getO t p | none => none) else none := by rw [T.getO]
theorem getO_k (kvs s p) : T.getO (.dk kvs) (.k s :: p) = (match getA s kvs with | some t => T.getO t p | none => none) := by rw [T.getO]
theorem putO_f (c fs c' x p u) : T.putO (.ob c fs) (.f c' x :: p) u = (match getA x fs with | some t => .ob c (putA x (T.putO t p u) fs) | none => .ob c fs) := by rw [T.putO]
theorem putO_k (kvs s p u) : T.putO (.dk kvs) (.k s :: p) u = (match getA s kvs with | some t => .dk (putA s (T.putO t p u) kvs) | none => .dk kvs) := by rw [T.putO]
theorem getO_gone {p : List Stp} {t u : T} (h : T.getO t p = some u) (n : u ≠ .gone) : t ≠ .gone := by
  rintro rfl
  cases p with
  | nil => rw [getO_nil] at h; cases h; exact n rfl
  | cons s p => cases s <;> rw [T.getO] at h <;> first | cases h | (intros; simp_all)
section
variable {g : Gx} {F : Hp}
theorem RO.path : ∀ (p : List Stp) {M : Hp} {v : V} {t u : T}, RO g F M v t → T.getO t p = some u →
    ∃ w M1 M2, PV g M v p w ∧ RO g F M1 w u ∧ Same M1 M ∧ Same M2 M ∧ Dj M1 M2 ∧ ∀ F' M1' u' M', Same F F' → RO g F' M1' w u' → Dj M1' M2 → Same M1' M' → Same M2 M' → RO g F' M' v (T.putO t p u')
  | [], M, v, t, u, r, h => by
    rw [getO_nil] at h
    cases h
    exact ⟨v, M, em, rfl, r, Same.refl _, Same.empty, Dj.em_r, fun F' M1' u' M' _ r' _ s1 _ => by rw [putO_nil]; exact r'.ext s1⟩
  | .f c x :: p, M, v, t, u, r, h => by
    cases t with
    | ob c' ts =>
      rw [getO_f] at h
      by_cases hc : c' = c
      · rw [if_pos hc] at h
        subst hc
        cases q : getA x ts with
        | none => rw [q] at h; cases h
        | some t1 =>
          rw [q] at h
          cases r with
          | @ob _ Mf a C dx _ fs _ h1 h2 h3 h4 h5 h6 h7 h8 =>
            obtain ⟨v1, A, B, e1, r1, sA, sB, dAB, back⟩ := ROs.pickA h7 h8 q
            obtain ⟨w, M1, M2, pv, ru, s1, s2, d, back2⟩ := RO.path p r1 h
            have hne : a ≠ dx := by intro e; rw [← e, h2] at h3; cases h3
            have cM : Same (upd (upd em dx (.own a)) a (.ins C dx fs)) M := fun b o e => by
              by_cases q1 : b = a
              · subst q1; rw [upd_same] at e; cases e; exact h2
              · rw [upd_ne q1] at e
                by_cases q2 : b = dx
                · subst q2; rw [upd_same] at e; cases e; exact h3
                · rw [upd_ne q2] at e; cases e
            have cD : ∀ {Z : Hp}, Z a = none → Z dx = none → Dj (upd (upd em dx (.own a)) a (.ins C dx fs)) Z := fun {Z} z1 z2 => dj_upd_l (dj_upd_l Dj.em_l z2) z1
            have aA := sA.free h5
            have xA := sA.free h6
            have aB := sB.free h5
            have xB := sB.free h6
            have dM2B : Dj M2 B := dAB.sub s2 (Same.refl _)
            have dM1B : Dj M1 B := dAB.sub s1 (Same.refl _)
            have dC : Dj (upd (upd em dx (.own a)) a (.ins C dx fs)) (jn M2 B) := cD (jn_none (s2.free aA) aB) (jn_none (s2.free xA) xB)
            refine ⟨w, M1, jn (upd (upd em dx (.own a)) a (.ins C dx fs)) (jn M2 B), ⟨a, C, dx, fs, v1, rfl, h2, h1, by rw [lookup_getA]; exact e1, pv.mono (sA.trans h4)⟩, ru, (s1.trans sA).trans h4,
              jn_sub cM (jn_sub ((s2.trans sA).trans h4) (sB.trans h4)), dj_jn_r (cD (s1.free aA) (s1.free xA)).symm (dj_jn_r d dM1B), fun F' M1' u' M' s r' d' k1 k2 => ?_⟩
            have dm2 : Dj M1' M2 := d'.sub (Same.refl _) (jn_l.trans (jn_r dC))
            have dmB : Dj M1' B := d'.sub (Same.refl _) ((jn_r dM2B).trans (jn_r dC))
            have kk := back2 F' M1' u' (jn M1' M2) s r' dm2 jn_l (jn_r dm2)
            have kk2 := back F' (jn M1' M2) v1 _ (jn (jn M1' M2) B) s kk (dj_jn dmB dM2B) jn_l (jn_r (dj_jn dmB dM2B))
            rw [putO_f, q]
            dsimp only
            rw [putA_same e1] at kk2
            have a' : M1' a = none := d'.ne' (jn_l _ _ upd_same)
            have x' : M1' dx = none := d'.ne' (jn_l _ _ (by rw [upd_ne (Ne.symm hne)]; exact upd_same))
            refine .ob h1 (k2 _ _ (jn_l _ _ upd_same)) (k2 _ _ (jn_l _ _ (by rw [upd_ne (Ne.symm hne)]; exact upd_same))) (M' := jn (jn M1' M2) B) (jn_sub (jn_sub k1 ((jn_l.trans (jn_r dC)).trans k2)) (((jn_r dM2B).trans (jn_r dC)).trans k2))
              (jn_none (jn_none a' (s2.free aA)) aB) (jn_none (jn_none x' (s2.free xA)) xB) ?_ kk2
            have := putA_keys (f := x) (v := v1) (t := T.putO t1 p u') h7
            rw [putA_same e1] at this
            exact this
      · rw [if_neg hc] at h; cases h
    | _ => rw [T.getO] at h <;> first | cases h | (intros; simp_all)
  | .k x :: p, M, v, t, u, r, h => by
    cases t with
    | dk ts =>
      rw [getO_k] at h
      cases q : getA x ts with
      | none => rw [q] at h; cases h
      | some t1 =>
        rw [q] at h
        cases r with
        | @dk _ Mf a kvs _ h1 h2 h3 h4 h5 =>
          obtain ⟨v1, A, B, e1, r1, sA, sB, dAB, back⟩ := ROs.pickA h4 h5 q
          obtain ⟨w, M1, M2, pv, ru, s1, s2, d, back2⟩ := RO.path p r1 h
          have cM : Same (upd em a (.dK kvs)) M := same_upd_l Same.empty h1
          have cD : ∀ {Z : Hp}, Z a = none → Dj (upd em a (.dK kvs)) Z := fun {Z} z1 => dj_upd_l Dj.em_l z1
          have aA := sA.free h3
          have aB := sB.free h3
          have dM2B : Dj M2 B := dAB.sub s2 (Same.refl _)
          have dM1B : Dj M1 B := dAB.sub s1 (Same.refl _)
          have dC : Dj (upd em a (.dK kvs)) (jn M2 B) := cD (jn_none (s2.free aA) aB)
          refine ⟨w, M1, jn (upd em a (.dK kvs)) (jn M2 B), ⟨a, kvs, v1, rfl, .inl h1, by rw [valV_getA]; exact e1, pv.mono (sA.trans h2)⟩, ru, (s1.trans sA).trans h2,
            jn_sub cM (jn_sub ((s2.trans sA).trans h2) (sB.trans h2)), dj_jn_r (cD (s1.free aA)).symm (dj_jn_r d dM1B), fun F' M1' u' M' s r' d' k1 k2 => ?_⟩
          have dm2 : Dj M1' M2 := d'.sub (Same.refl _) (jn_l.trans (jn_r dC))
          have dmB : Dj M1' B := d'.sub (Same.refl _) ((jn_r dM2B).trans (jn_r dC))
          have kk := back2 F' M1' u' (jn M1' M2) s r' dm2 jn_l (jn_r dm2)
          have kk2 := back F' (jn M1' M2) v1 _ (jn (jn M1' M2) B) s kk (dj_jn dmB dM2B) jn_l (jn_r (dj_jn dmB dM2B))
          rw [putO_k, q]
          dsimp only
          rw [putA_same e1] at kk2
          have a' : M1' a = none := d'.ne' (jn_l _ _ upd_same)
          refine .dk (M' := jn (jn M1' M2) B) (k2 _ _ (jn_l _ _ upd_same)) (jn_sub (jn_sub k1 ((jn_l.trans (jn_r dC)).trans k2)) (((jn_r dM2B).trans (jn_r dC)).trans k2)) (jn_none (jn_none a' (s2.free aA)) aB) ?_ kk2
          have := putA_keys (f := x) (v := v1) (t := T.putO t1 p u') h4
          rw [putA_same e1] at this
          exact this
    | _ => rw [T.getO] at h <;> first | cases h | (intros; simp_all)
end
/-- what stands at the end of a way from a slot -/
theorem Sta.pth {g : Gx} {F Mm G H : Hp} {σ : L2.St} {ts : List T} {i : Nat} {p : List Stp} {t0 u : T} (st : Sta g F Mm G H σ ts) (e : ts[i]? = some t0) (e2 : T.getO t0 p = some u) (n : u ≠ .gone) :
    ∃ v0 w M1 M2, σ[i]? = some (some v0) ∧ PV g H v0 p w ∧ RO g F M1 w u ∧ Same M1 Mm ∧ Same M2 Mm ∧ Dj M1 M2 ∧
      ∀ F' M1' u' M' G' H', Same F F' → RO g F' M1' w u' → Dj M1' M2 → Same M1' M' → Same M2 M' → Hc F' M' G' H' → Sta g F' M' G' H' σ (ts.set i (T.putO t0 p u')) := by
  obtain ⟨v, A, B, vs, e1, r, sA, sB, dAB, q, ev, back⟩ := st.slot e (getO_gone e2 n)
  obtain ⟨w, M1, M2, pv, ru, s1, s2, d, back2⟩ := RO.path p r e2
  have dM2B : Dj M2 B := dAB.sub s2 (Same.refl _)
  refine ⟨v, w, M1, jn M2 B, e1, pv.mono (sA.trans st.hc.mh), ru, s1.trans sA, jn_sub (s2.trans sA) sB, dj_jn_r d (dAB.sub s1 (Same.refl _)), fun F' M1' u' M' G' H' s r' d' k1 k2 hc' => ?_⟩
  have dm2 : Dj M1' M2 := d'.sub (Same.refl _) jn_l
  have dmB : Dj M1' B := d'.sub (Same.refl _) (jn_r dM2B)
  have kk := back2 F' M1' u' (jn M1' M2) s r' dm2 jn_l (jn_r dm2)
  exact st.put s e1 q (back F' (jn M1' M2) v _ M' s kk (dj_jn dmB dM2B) (jn_sub k1 (jn_l.trans k2)) ((jn_r dM2B).trans k2)) hc'
theorem Sta.closeP {g : Gx} {F Mm Mv G H M1 M2 Mc Mc' Mr : Hp} {σ : L2.St} {ts : List T} {w : V} {a : Addr} {o o' : HO} {t' : T} {fin : T → List T} (st : Sta g F Mm (jn Mv G) H σ ts) (d : Dj Mv G)
    (s1 : Same M1 Mm) (s2 : Same M2 Mm) (dd : Dj M1 M2)
    (back : ∀ F' M1' u' M' G' H', Same F F' → RO g F' M1' w u' → Dj M1' M2 → Same M1' M' → Same M2 M' → Hc F' M' G' H' → Sta g F' M' G' H' σ (fin u'))
    (ha : M1 a = some o) (sc : Same Mc M1) (ca : Mc a = none) (h1 : Same Mc' (jn Mc Mv)) (h2 : Same Mr (jn Mc Mv)) (h3 : Dj Mc' Mr) (r : RO g F (upd Mc' a o') w t') (nt : ∀ xs, o' ≠ .tup xs := by intro _ z; cases z) :
    ∃ M', Sta g F M' (jn Mr G) (upd H a o') σ (fin t') ∧ Dj Mr G := by
  have hc := st.hc
  have dv1 : Dj Mv M1 := (hc.mg.sub s1 jn_l).symm
  have dv2 : Dj Mv M2 := (hc.mg.sub s2 jn_l).symm
  have va : Mv a = none := dv1.ne' ha
  have aG : G a = none := (hc.mg.sub s1 (jn_r d)).ne ha
  have aF : F a = none := hc.fm.ne' (s1 _ _ ha)
  have a2 : M2 a = none := dd.ne ha
  have dcv : Dj (jn Mc Mv) G := dj_jn (hc.mg.sub (sc.trans s1) (jn_r d)) d
  have dcF : Dj F (jn Mc Mv) := dj_jn_r (hc.fm.sub (Same.refl _) (sc.trans s1)) (hc.fg.sub (Same.refl _) jn_l)
  have dc2 : Dj (jn Mc Mv) M2 := dj_jn (dd.sub sc (Same.refl _)) dv2
  have jH : Same (jn Mc Mv) H := jn_sub ((sc.trans s1).trans hc.mh) (jn_l.trans hc.gh)
  have ja : (jn Mc Mv) a = none := jn_none ca va
  have off : ∀ {A : Hp}, A a = none → Same A H → Same A (upd H a o') := fun {A} n s b x e => by rw [upd_ne (ne_of_none e n)]; exact s _ _ e
  have c'a : Mc' a = none := h1.free ja
  have ra : Mr a = none := h2.free ja
  have dN2 : Dj (upd Mc' a o') M2 := dj_upd_l (dc2.sub h1 (Same.refl _)) a2
  refine ⟨jn (upd Mc' a o') M2, back F (upd Mc' a o') t' (jn (upd Mc' a o') M2) _ _ (Same.refl _) r dN2 jn_l (jn_r dN2) ?_, dcv.sub h2 (Same.refl _)⟩
  exact ⟨off aF hc.fh, jn_sub (same_upd_l (off c'a (h1.trans jH)) upd_same) (off a2 (s2.trans hc.mh)), jn_sub (off ra (h2.trans jH)) (off aG ((jn_r d).trans hc.gh)),
    dj_jn_r (dj_upd_l (dcF.symm.sub h1 (Same.refl _)) aF).symm (hc.fm.sub (Same.refl _) s2), dj_jn_r (dcF.sub (Same.refl _) h2) (hc.fg.sub (Same.refl _) (jn_r d)),
    dj_jn (dj_jn_r (dj_upd_l h3 ra) (dj_upd_l (dcv.sub h1 (Same.refl _)) aG)) (dj_jn_r (dc2.symm.sub (Same.refl _) h2) (hc.mg.sub s2 (jn_r d))), hc.ft.cell nt⟩
section
variable {g : Gx} {F Mm Mv G H : Hp} {σ : L2.St} {ts : List T} {i : Nat} {p : List Stp} {t0 : T}
theorem Sta.lstP {xs : List T} (st : Sta g F Mm (jn Mv G) H σ ts) (d : Dj Mv G) (e : ts[i]? = some t0) (e2 : T.getO t0 p = some (.l xs)) :
    ∃ v0 a ws Mc, σ[i]? = some (some v0) ∧ PV g H v0 p (.ref a) ∧ H a = some (.lst ws) ∧ ROs g F Mc ws xs ∧ Dj Mc Mv ∧
      ∀ us ys Mc' Mr, ROs g F Mc' us ys → Same Mc' (jn Mc Mv) → Same Mr (jn Mc Mv) → Dj Mc' Mr → ∃ M', Sta g F M' (jn Mr G) (upd H a (.lst us)) σ (ts.set i (T.putO t0 p (.l ys))) ∧ Dj Mr G := by
  obtain ⟨v0, w, M1, M2, e1, pv, r, s1, s2, dd, back⟩ := st.pth e e2 (fun z => nomatch z)
  have hc := st.hc
  cases r with
  | @l _ Mc a ws _ h1 h2 h3 h4 =>
    have dv1 : Dj Mv M1 := (hc.mg.sub s1 jn_l).symm
    have va : Mv a = none := dv1.ne' h1
    refine ⟨v0, a, ws, Mc, e1, pv, hc.mh _ _ (s1 _ _ h1), h4, dv1.symm.sub h2 (Same.refl _), fun us ys Mc' Mr ru k1 k2 k3 => ?_⟩
    have c'a : Mc' a = none := k1.free (jn_none h3 va)
    exact st.closeP (fin := fun u => ts.set i (T.putO t0 p u)) d s1 s2 dd back h1 h2 h3 k1 k2 k3 (.l (M' := Mc') upd_same (same_upd c'a) c'a ru)
theorem Sta.dktP {xs : List (Key × T)} (st : Sta g F Mm (jn Mv G) H σ ts) (d : Dj Mv G) (e : ts[i]? = some t0) (e2 : T.getO t0 p = some (.dk xs)) :
    ∃ (v0 : V) (a : Addr) (kvs : List (Key × V)) (Mc : Hp), σ[i]? = some (some v0) ∧ PV g H v0 p (.ref a) ∧ H a = some (.dK kvs) ∧ kvs.map (·.1) = xs.map (·.1) ∧ ROs g F Mc (kvs.map (·.2)) (xs.map (·.2)) ∧ Dj Mc Mv ∧
      ∀ (kus : List (Key × V)) (ys : List (Key × T)) (Mc' Mr : Hp), kus.map (·.1) = ys.map (·.1) → ROs g F Mc' (kus.map (·.2)) (ys.map (·.2)) → Same Mc' (jn Mc Mv) → Same Mr (jn Mc Mv) → Dj Mc' Mr → ∃ M', Sta g F M' (jn Mr G) (upd H a (.dK kus)) σ (ts.set i (T.putO t0 p (.dk ys))) ∧ Dj Mr G := by
  obtain ⟨v0, w, M1, M2, e1, pv, r, s1, s2, dd, back⟩ := st.pth e e2 (fun z => nomatch z)
  have hc := st.hc
  cases r with
  | @dk _ Mc a kvs _ h1 h2 h3 h4 h5 =>
    have dv1 : Dj Mv M1 := (hc.mg.sub s1 jn_l).symm
    have va : Mv a = none := dv1.ne' h1
    refine ⟨v0, a, kvs, Mc, e1, pv, hc.mh _ _ (s1 _ _ h1), h4, h5, dv1.symm.sub h2 (Same.refl _), fun kus ys Mc' Mr hk ru k1 k2 k3 => ?_⟩
    have c'a : Mc' a = none := k1.free (jn_none h3 va)
    exact st.closeP (fin := fun u => ts.set i (T.putO t0 p u)) d s1 s2 dd back h1 h2 h3 k1 k2 k3 (.dk (M' := Mc') upd_same (same_upd c'a) c'a hk ru)
theorem Sta.obP {c : Str} {xs : List (Str × T)} (st : Sta g F Mm (jn Mv G) H σ ts) (d : Dj Mv G) (e : ts[i]? = some t0) (e2 : T.getO t0 p = some (.ob c xs)) :
    ∃ (v0 : V) (a C dx : Addr) (fs : List (Str × V)) (Mf : Hp), σ[i]? = some (some v0) ∧ PV g H v0 p (.ref a) ∧ g.mg c = some (.ref C) ∧ H a = some (.ins C dx fs) ∧ fs.map (·.1) = xs.map (·.1) ∧ ROs g F Mf (fs.map (·.2)) (xs.map (·.2)) ∧ Dj Mf Mv ∧
      ∀ (fs' : List (Str × V)) (ys : List (Str × T)) (Mf' Mr : Hp), fs'.map (·.1) = ys.map (·.1) → ROs g F Mf' (fs'.map (·.2)) (ys.map (·.2)) → Same Mf' (jn Mf Mv) → Same Mr (jn Mf Mv) → Dj Mf' Mr → ∃ M', Sta g F M' (jn Mr G) (upd H a (.ins C dx fs')) σ (ts.set i (T.putO t0 p (.ob c ys))) ∧ Dj Mr G := by
  obtain ⟨v0, w, M1, M2, e1, pv, r, s1, s2, dd, back⟩ := st.pth e e2 (fun z => nomatch z)
  have hc := st.hc
  cases r with
  | @ob _ Mf a C dx _ fs _ h1 h2 h3 h4 h5 h6 h7 h8 =>
    have dv1 : Dj Mv M1 := (hc.mg.sub s1 jn_l).symm
    have va : Mv a = none := dv1.ne' h2
    have vx : Mv dx = none := dv1.ne' h3
    have hne : a ≠ dx := by intro e; rw [← e, h2] at h3; cases h3
    refine ⟨v0, a, C, dx, fs, Mf, e1, pv, h1, hc.mh _ _ (s1 _ _ h2), h7, h8, dv1.symm.sub h4 (Same.refl _), fun fs' ys Mf' Mr hk ru k1 k2 k3 => ?_⟩
    have fa : Mf' a = none := k1.free (jn_none h5 va)
    have fx : Mf' dx = none := k1.free (jn_none h6 vx)
    have rx : Mr dx = none := k2.free (jn_none h6 vx)
    have jf : Same (jn Mf Mv) (jn (upd Mf dx (.own a)) Mv) := jn_sub ((same_upd h6).trans jn_l) (jn_r (dj_upd_l (dv1.symm.sub h4 (Same.refl _)) vx))
    refine st.closeP (fin := fun u => ts.set i (T.putO t0 p u)) (Mc := upd Mf dx (.own a)) (Mc' := upd Mf' dx (.own a)) (Mr := Mr) d s1 s2 dd back h2 (same_upd_l h4 h3) (by rw [upd_ne hne]; exact h5) ?_ (k2.trans jf) (dj_upd_l k3 rx) ?_
    · exact same_upd_l (k1.trans jf) (jn_l _ _ upd_same)
    · exact .ob h1 upd_same (by rw [upd_ne (Ne.symm hne)]; exact upd_same) (M' := Mf') ((same_upd fx).trans (same_upd (by rw [upd_ne hne]; exact fa))) fa fx hk ru
end
end Ar
/-! ArPe: owned lists, dicts and fields at the end of a way, changed. -/
namespace Ar
open PySem PySem.Spec PyProof.Rows L2
def getS (i : Nat) (p : List Stp) (ts : List T) : Option T := match ts[i]? with
  | some t0 => T.getO t0 p
  | none => none
def putSl (i : Nat) (p : List Stp) (u : T) (ts : List T) : List T := match ts[i]? with
  | some t0 => ts.set i (T.putO t0 p u)
  | none => ts
theorem getS_some {i : Nat} {p : List Stp} {ts : List T} {u : T} (h : getS i p ts = some u) : ∃ t0, ts[i]? = some t0 ∧ T.getO t0 p = some u := by
  unfold getS at h
  cases q : ts[i]? with
  | none => rw [q] at h; cases h
  | some t0 => rw [q] at h; exact ⟨t0, rfl, h⟩
section
variable {g : Gx} {W : WX} {F Mm Mv A G H : Hp} {σ : L2.St} {ts : List T} {i : Nat} {p : List Stp} {t0 u : T} {v : V}
/-- a slot's thing is held aside -/
theorem Sta.hold (st : Sta g F Mm G H σ ts) (e : ts[i]? = some t0) (e2 : T.getO t0 p = some u) (n : u ≠ .gone) :
    ∃ v w A B, σ[i]? = some (some v) ∧ RO g F A v t0 ∧ PV g A v p w ∧ Same A H ∧ Sta g F B (jn A G) H σ (ts.set i .gone) ∧ Dj A G := by
  obtain ⟨v, A, B, e1, r, st1, d⟩ := st.take e (getO_gone e2 n)
  obtain ⟨w, M1, M2, pv, _⟩ := RO.path p r e2
  exact ⟨v, w, A, B, e1, r, pv, jn_l.trans st1.hc.gh, st1, d⟩
/-- .. and set back -/
theorem Sta.backIn (st : Sta g F Mm (jn A G) H σ ts) (r : RO g F A v t0) (d : Dj A G) (e : σ[i]? = some (some v)) (hi : i < ts.length) : ∃ M', Sta g F M' G H σ (ts.set i t0) := by
  obtain ⟨M', h⟩ := st.assign r d hi
  have : σ.set i (some v) = σ := by
    refine List.ext_getElem? fun k => ?_
    by_cases q : i = k
    · subst q
      have hl : i < σ.length := (List.getElem?_eq_some_iff.mp e).1
      rw [List.getElem?_set_self hl, e]
    · rw [List.getElem?_set_ne q]
  rw [this] at h
  exact ⟨M', h⟩
theorem jn_turn {A B C : Hp} (d : Dj B A) : jn B (jn A C) = jn A (jn B C) := by rw [← jn_assoc, ← jn_swap d, ← jn_assoc] <;> first | rfl | (rw [jn_swap d])
end
/-- what is done where slot i is held aside -/
def aside {α : Type} (i : Nat) (m : M α) : M α := fun ts => match ts[i]? with
  | some t0 => (match m (ts.set i .gone) with
    | .ok a ts1 => if i < ts1.length then .ok a (ts1.set i t0) else .bad
    | .ex c ts1 => if i < ts1.length then .ex c (ts1.set i t0) else .bad
    | .bad => .bad)
  | none => .bad
section
variable {g : Gx} {W : WX} {F Mm G H : Hp} {σ : L2.St} {ts : List T} {i : Nat} {p : List Stp} {t0 u : T}
theorem KX.unhold {A : Hp} {v : V} {c : Str} {ts1 : List T} (h : KX g W F G σ c (ts1.set i t0)) (r : RO g F A v t0) (d : Dj A G) (e : σ[i]? = some (some v)) (hi : i < ts1.length) : KX g W F (jn A G) σ c ts1 := fun F1 M1 H1 C s1 st1 hC => by
  obtain ⟨M2, st2⟩ := st1.backIn (r.mono s1) d e hi
  exact h F1 M2 H1 C s1 st2 hC
/-- an owned thing comes, while slot i is held aside -/
theorem aside_D {m : M T} {f : T → M T} {Q : VK} {Q' : V → VK} (st : Sta g F Mm G H σ ts) (e : ts[i]? = some t0) (e2 : T.getO t0 p = some u) (n : u ≠ .gone) (k : KD g W F G σ Q ((aside i m >>= f) ts))
    (go : ∀ (v w : V) (t : T) (ts1 : List T), σ[i]? = some (some v) → i < ts1.length → KD g W F G σ Q (f t (ts1.set i t0)) → ∀ F' Mv M' H' x, Same F F' → PV g H' v p w → RO g F' Mv x t → Sta g F' M' (jn Mv G) H' σ (ts1.set i t0) → Dj Mv G → Q' w x H') :
    ∃ v w, σ[i]? = some (some v) ∧ PV g H v p w ∧ tD g W m σ H (Q' w) := by
  obtain ⟨v, w, A, B, e1, r, pv, sA, st1, dA⟩ := st.hold e e2 n
  refine ⟨v, w, e1, pv.mono sA, F, B, jn A G, ts.set i .gone, st1, ?_⟩
  have k : KD g W F G σ Q (M.andThen (aside i m) f ts) := k
  unfold M.andThen aside at k
  rw [e] at k
  dsimp only at k
  cases q : m (ts.set i .gone) with
  | bad => rw [q] at k; exact k
  | ex c ts1 =>
    rw [q] at k
    dsimp only at k
    by_cases hi : i < ts1.length
    · rw [if_pos hi] at k
      exact KX.unhold k r dA e1 hi
    · rw [if_neg hi] at k; exact k.elim
  | ok t ts1 =>
    rw [q] at k
    dsimp only at k
    by_cases hi : i < ts1.length
    · rw [if_pos hi] at k
      intro F1 Mv M1 H1 x s1 rx st2 dv
      have dvA : Dj Mv A := dv.sub (Same.refl _) jn_l
      have dvG : Dj Mv G := dv.sub (Same.refl _) (jn_r dA)
      rw [jn_turn dvA] at st2
      have dAv : Dj A (jn Mv G) := dj_jn_r dvA.symm dA
      have aH : Same A H1 := jn_l.trans st2.hc.gh
      obtain ⟨M2, st3⟩ := st2.backIn (r.mono s1) dAv e1 hi
      exact go v w t ts1 e1 hi k F1 Mv M2 H1 x s1 (pv.mono aH) rx st3 dvG
    · rw [if_neg hi] at k; exact k.elim
/-- .. what comes is frozen -/
theorem aside_Z {m : M D} {f : D → M T} {Q : VK} {Q' : V → VK} (st : Sta g F Mm G H σ ts) (e : ts[i]? = some t0) (e2 : T.getO t0 p = some u) (n : u ≠ .gone) (k : KD g W F G σ Q ((aside i m >>= f) ts))
    (go : ∀ (v w : V) (d : D) (ts1 : List T), σ[i]? = some (some v) → i < ts1.length → KD g W F G σ Q (f d (ts1.set i t0)) → ∀ F' M' H' x, Same F F' → PV g H' v p w → Rp g F' x d → Sta g F' M' G H' σ (ts1.set i t0) → Q' w x H') :
    ∃ v w, σ[i]? = some (some v) ∧ PV g H v p w ∧ tZ g W m σ H (Q' w) := by
  obtain ⟨v, w, A, B, e1, r, pv, sA, st1, dA⟩ := st.hold e e2 n
  refine ⟨v, w, e1, pv.mono sA, F, B, jn A G, ts.set i .gone, st1, ?_⟩
  have k : KD g W F G σ Q (M.andThen (aside i m) f ts) := k
  unfold M.andThen aside at k
  rw [e] at k
  dsimp only at k
  cases q : m (ts.set i .gone) with
  | bad => rw [q] at k; exact k
  | ex c ts1 =>
    rw [q] at k
    dsimp only at k
    by_cases hi : i < ts1.length
    · rw [if_pos hi] at k
      exact KX.unhold k r dA e1 hi
    · rw [if_neg hi] at k; exact k.elim
  | ok t ts1 =>
    rw [q] at k
    dsimp only at k
    by_cases hi : i < ts1.length
    · rw [if_pos hi] at k
      intro F1 M1 H1 x s1 rx st2
      have aH : Same A H1 := jn_l.trans st2.hc.gh
      obtain ⟨M2, st3⟩ := st2.backIn (r.mono s1) dA e1 hi
      exact go v w t ts1 e1 hi k F1 M2 H1 x s1 (pv.mono aH) rx st3
    · rw [if_neg hi] at k; exact k.elim
theorem tZ_mono {m : M D} {Q Q' : VK} (h : tZ g W m σ H Q) (i : ∀ v H', Q v H' → Q' v H') : tZ g W m σ H Q' := by
  obtain ⟨F, Mm, G, ts, st, k⟩ := h
  refine ⟨F, Mm, G, ts, st, ?_⟩
  cases q : m ts with
  | bad => rw [q] at k; exact k
  | ex c ts1 => rw [q] at k; exact k
  | ok d ts1 => rw [q] at k; exact fun F1 M1 H1 v s r st1 => i _ _ (k F1 M1 H1 v s r st1)
theorem set_at {ts : List T} {i : Nat} {t : T} (h : i < ts.length) : (ts.set i t)[i]? = some t := List.getElem?_set_self h
theorem isLO_eq {o : Option T} (h : isLO o = true) : ∃ xs, o = some (.l xs) := by
  unfold isLO at h
  split at h
  · exact ⟨_, rfl⟩
  · cases h
end
/-! ### way.append(e), way.pop(k), way.pop() -/
section
variable {X : Cx} {W : WX} {o e : Expr} {apos cpos : Pos} {i : Nat} {p : List Stp}
def apP (i : Nat) (p : List Stp) (t : T) (ts : List T) : Option T → R T
  | some (.l xs) => if xs.length < lim then .ok (.z .non) (putSl i p (.l (xs ++ [t])) ts) else .bad
  | _ => .bad
def appP (i : Nat) (p : List Stp) (m : M T) : M T := fun ts => if isLO (getS i p ts) = true then (aside i m >>= fun t ts1 => apP i p t ts1 (getS i p ts1)) ts else .bad
theorem pe_appP {m : M T} (ho : PE X o (tPth (gx X) i p)) (hb : attributeBase o "append" X.env (eval o X.env) = eval o X.env) (he : PE X e (tD (gx X) W m)) (n : nst e = true) (hl : (apos.endLine == cpos.line) = true) :
    PE X (.Call (.Attribute o "append" apos) [e] [] cpos) (tD (gx X) W (appP i p m)) :=
  pe_imp (pe_bm PySem.F.plainAttrs_list PySem.F.slot_list_append PySem.F.type_list_append mt_append ho (pa_cons he pa_nil (star_of n _ _)) hb (few1 n _ _) hl (star_of n _ _) rfl) fun σ H Q ⟨F, Mm, G, ts, st, k⟩ => by
    unfold appP at k
    by_cases hi : isLO (getS i p ts) = true
    · rw [if_pos hi] at k
      obtain ⟨xs0, e0⟩ := isLO_eq hi
      obtain ⟨t0, h0, h1⟩ := getS_some e0
      obtain ⟨v0, a, ws0, Mc0, c1, c2, hH, _⟩ := Sta.lstP (Mv := em) st Dj.em_l h0 h1
      obtain ⟨v, w, b1, b2, b3⟩ := aside_D (Q' := fun w x H2 => ∃ l ys y, w = V.ref l ∧ [x] = [y] ∧ H2 l = some (HO.lst ys) ∧ ys.length < sizeLine ∧ Q .non (upd H2 l (.lst (ys ++ [y])))) st h0 h1 (fun z => nomatch z) k fun v w t ts1 f1 f2 k1 F1 Mv M1 H1 x s1 pv r st1 dj => by
        have g1 : getS i p (ts1.set i t0) = some (.l xs0) := by unfold getS; rw [set_at f2]; exact h1
        rw [g1] at k1
        unfold apP at k1
        dsimp only at k1
        by_cases hz : xs0.length < lim
        · rw [if_pos hz] at k1
          obtain ⟨v1, a1, ws, Mc, e2, pv1, hH1, rs, dc, fin⟩ := st1.lstP dj (set_at f2) h1
          rw [f1] at e2; cases e2
          have := pv.inj pv1
          subst this
          obtain ⟨M', st2, dj2⟩ := fin (ws ++ [x]) (xs0 ++ [t]) (jn Mc Mv) em (rs.append (.cons (M1 := Mv) (M2 := em) r .nil (Same.refl _) Same.empty Dj.em_r) dc jn_l (jn_r dc)) (Same.refl _) Same.empty Dj.em_r
          refine ⟨a1, ws, x, rfl, rfl, hH1, by rw [rs.length]; exact lim_lt' hz, ?_⟩
          unfold putSl at k1
          rw [set_at f2] at k1
          exact k1 F1 em M' _ _ s1 (.z .non) st2 Dj.em_l
        · rw [if_neg hz] at k1; exact k1.elim
      rw [b1] at c1; cases c1
      have := b2.inj c2
      subst this
      exact ⟨_, _, b1, b2, tyL (g := gx X) hH, b3⟩
    · rw [if_neg hi] at k; exact k.elim
def poK (i : Nat) (p : List Stp) (d : D) (ts : List T) : Option T → R T
  | some (.dk xs) => (match Ar.D.key d with
    | some k => (match getA k xs with
      | some (.z y) => .ok (.z y) (putSl i p (.dk (xs.filter fun q => decide (q.1 ≠ k))) ts)
      | _ => .bad)
    | none => .bad)
  | _ => .bad
def isKO : Option T → Bool
  | some (.dk _) => true
  | _ => false
def popKP (i : Nat) (p : List Stp) (m : M D) : M T := fun ts => if isKO (getS i p ts) = true then (aside i m >>= fun d ts1 => poK i p d ts1 (getS i p ts1)) ts else .bad
theorem pe_popKP {m : M D} (ho : PE X o (tPth (gx X) i p)) (hb : attributeBase o "pop" X.env (eval o X.env) = eval o X.env) (he : PE X e (tZ (gx X) W m)) (n : nst e = true) (hl : (apos.endLine == cpos.line) = true) :
    PE X (.Call (.Attribute o "pop" apos) [e] [] cpos) (tD (gx X) W (popKP i p m)) :=
  pe_imp (pe_dpop1 ho he ⟨hb, few1 n _ _, hl, by rw [star_of n]; rfl⟩) fun σ H Q ⟨F, Mm, G, ts, st, k⟩ => by
    unfold popKP at k
    by_cases hi : isKO (getS i p ts) = true
    · rw [if_pos hi] at k
      have : ∃ xs0, getS i p ts = some (.dk xs0) := by
        unfold isKO at hi
        split at hi
        · exact ⟨_, by assumption⟩
        · cases hi
      obtain ⟨xs0, e0⟩ := this
      obtain ⟨t0, h0, h1⟩ := getS_some e0
      obtain ⟨v0, a, kvs0, Mc0, c1, c2, hH, _⟩ := Sta.dktP (Mv := em) st Dj.em_l h0 h1
      obtain ⟨v, w, b1, b2, b3⟩ := aside_Z (Q' := fun w y H2 => ∃ a, w = V.ref a ∧ ∃ kvs k v, H2 a = some (.dK kvs) ∧ y = kV k ∧ valV kvs k = some v ∧ Q v (upd H2 a (.dK (dropK kvs k)))) st h0 h1 (fun z => nomatch z) k fun v w d ts1 f1 f2 k1 F1 M1 H1 x s1 pv r st1 => by
        have g1 : getS i p (ts1.set i t0) = some (.dk xs0) := by unfold getS; rw [set_at f2]; exact h1
        rw [g1] at k1
        unfold poK at k1
        dsimp only at k1
        cases q3 : Ar.D.key d with
        | none => rw [q3] at k1; exact k1.elim
        | some kk =>
          rw [q3] at k1
          dsimp only at k1
          cases q4 : getA kk xs0 with
          | none => rw [q4] at k1; exact k1.elim
          | some t =>
            rw [q4] at k1
            cases t with
            | z y =>
              dsimp only at k1
              obtain ⟨v1, a1, kvs, Mc, e2, pv1, hH1, hkeys, rs, dc, fin⟩ := Sta.dktP (Mv := em) st1 Dj.em_l (set_at f2) h1
              rw [f1] at e2; cases e2
              have := pv.inj pv1
              subst this
              have ek : x = kV kk := by
                rw [key_eq q3] at r
                exact rp_key r
              subst ek
              obtain ⟨vy, A, B, g2, ry, _⟩ := ROs.pickA hkeys rs q4
              obtain ⟨d1, d2⟩ := ROs.dropA (k := kk) hkeys rs
              obtain ⟨M', st2, dj2⟩ := fin (dropK kvs kk) (xs0.filter fun q => decide (q.1 ≠ kk)) Mc em d1 d2 jn_l Same.empty Dj.em_r
              cases ry with
              | z ry =>
                refine ⟨a1, rfl, kvs, kk, vy, hH1, rfl, by rw [valV_getA]; exact g2, ?_⟩
                unfold putSl at k1
                rw [set_at f2] at k1
                exact k1 F1 em M' _ vy s1 (.z ry) st2 Dj.em_l
            | _ => exact k1.elim
      rw [b1] at c1; cases c1
      have := b2.inj c2
      subst this
      refine ⟨_, _, b1, b2, a, rfl, .inl ⟨kvs0, .inl hH⟩, ?_⟩
      exact tZ_mono b3 fun y H2 ⟨a', h, rest⟩ => by cases h; exact rest
    · rw [if_neg hi] at k; exact k.elim
end
end Ar
/-! ArPf: the last of an owned list popped; stores at the end of a way; fields stored. -/
namespace Ar
open PySem PySem.Spec PyProof.Rows L2
theorem last_erase {α : Type} : ∀ l : List α, l.dropLast = l.eraseIdx (l.length - 1)
  | [] => rfl
  | [x] => rfl
  | x :: y :: l => by
    show x :: (y :: l).dropLast = x :: (y :: l).eraseIdx l.length
    rw [last_erase (y :: l)]
    rfl
section
variable {X : Cx} {W : WX} {o e kx : Expr} {apos cpos pos pos' tpos : Pos} {i : Nat} {p : List Stp} {bs : List Nat}
def poE (i : Nat) (p : List Stp) (ts : List T) : Option T → R T
  | some (.l xs) => (match xs.getLast? with
    | some t => .ok t (putSl i p (.l xs.dropLast) ts)
    | none => .bad)
  | _ => .bad
def popEP (i : Nat) (p : List Stp) : M T := fun ts => poE i p ts (getS i p ts)
theorem pe_popEP (ho : PE X o (tPth (gx X) i p)) (hb : attributeBase o "pop" X.env (eval o X.env) = eval o X.env) (hl : (apos.endLine == cpos.line) = true) :
    PE X (.Call (.Attribute o "pop" apos) [] [] cpos) (tD (gx X) W (popEP i p)) :=
  pe_imp (pe_bm0 PySem.F.plainAttrs_list PySem.F.slot_list_pop PySem.F.type_list_pop mt_pop ho hb hl) fun σ H Q ⟨F, Mm, G, ts, st, k⟩ => by
    have k : KD (gx X) W F G σ Q (poE i p ts (getS i p ts)) := k
    cases e0 : getS i p ts with
    | none => rw [e0] at k; exact k.elim
    | some u =>
      rw [e0] at k
      cases u with
      | l xs =>
        unfold poE at k
        dsimp only at k
        cases q : xs.getLast? with
        | none => rw [q] at k; exact k.elim
        | some t =>
          rw [q] at k
          dsimp only at k
          obtain ⟨t0, h0, h1⟩ := getS_some e0
          obtain ⟨v0, a, ws, Mc, c1, c2, hH, rs, dc, fin⟩ := Sta.lstP (Mv := em) st Dj.em_l h0 h1
          have hx : xs[xs.length - 1]? = some t := by rw [← List.getLast?_eq_getElem?]; exact q
          obtain ⟨v, A, B, e1, ry, rb, sa, sb, dab⟩ := ROs.erase rs hx
          have lw : ws.length = xs.length := rs.length
          rw [← last_erase xs, ← lw, ← last_erase ws] at rb
          obtain ⟨M', st2, dj2⟩ := fin ws.dropLast xs.dropLast B A rb (sb.trans jn_l) (sa.trans jn_l) dab.symm
          refine ⟨v0, .ref a, c1, c2, tyL (g := gx X) hH, a, ws, v, rfl, rfl, hH, by rw [lw]; exact e1, ?_⟩
          unfold putSl at k
          rw [h0] at k
          exact k F A M' _ v (Same.refl _) ry st2 dj2
      | _ => exact k.elim
/-! way[k] = e -/
def isCP : Option T → Bool
  | some (.l _) => true
  | some (.dk _) => true
  | _ => false
def stoP (i : Nat) (p : List Stp) (d : Ar.D) (t : T) (ts : List T) : Option T → RS
  | some u => (match setAt d t u with
    | some u' => .nx (putSl i p u' ts)
    | none => .bad)
  | none => .bad
def stP (i : Nat) (p : List Stp) (mk : M Ar.D) (me : M T) : S := bindS me fun t ts1 => if isCP (getS i p ts1) = true then bindS (aside i mk) (fun d ts2 => stoP i p d t ts2 (getS i p ts2)) ts1 else .bad
theorem ps_stP {mk : M Ar.D} {me : M T} (hu : X.A.units + 1 < cLine) (ho : PE X o (tPth (gx X) i p)) (he : PE X e (tD (gx X) W me)) (hk : PE X kx (tZ (gx X) W mk))
    (hs : swapsWithSole [.Subscript o kx pos'] e pos.line X.env = pure false) (hw : swappedStores [.Subscript o kx pos'] e X.env = pure none)
    (ha : ∀ v, assign (.Subscript o kx pos') X.env v = (do
      let ov ← holding [v] (eval o X.env)
      let iv ← holding [v, ov] (eval kx X.env)
      standAt pos'
      holding [v, ov, iv] (setItem ov iv v)
      release [v, ov, iv] [])) :
    PS X (.Assign [.Subscript o kx pos'] e pos) (tS (gx X) W bs (stP i p mk me)) :=
  ps_imp (ps_asg he (pg_sub ho hk (set_all hu) ha) hs hw rfl) fun D σ H ⟨F, Mm, G, ts, sa, k⟩ => tD_S sa k fun t ts1 _ k1 F1 Mv M1 H1 v s1 r st1 dj => by
    by_cases hi : isCP (getS i p ts1) = true
    · rw [if_pos hi] at k1
      have there : ∃ u, getS i p ts1 = some u ∧ u ≠ .gone ∧ isCP (some u) = true := by
        cases q : getS i p ts1 with
        | none => rw [q] at hi; cases hi
        | some u => rw [q] at hi; exact ⟨u, rfl, (by rintro rfl; cases hi), hi⟩
      obtain ⟨u, e0, nu, hu2⟩ := there
      obtain ⟨t0, h0, h1⟩ := getS_some e0
      obtain ⟨v0, w, A, B, b1, rA, pv, sA, stA, dA⟩ := st1.hold h0 h1 nu
      refine ⟨v0, w, b1, pv.mono sA, F1, B, jn A (jn Mv G), ts1.set i .gone, stA, ?_⟩
      have k1 : KS (gx X) W bs F G σ D (bindS (aside i mk) (fun d ts2 => stoP i p d t ts2 (getS i p ts2)) ts1) := k1
      unfold bindS aside at k1
      rw [h0] at k1
      dsimp only at k1
      cases q : mk (ts1.set i .gone) with
      | bad => rw [q] at k1; exact k1
      | ex c ts2 =>
        rw [q] at k1
        dsimp only at k1
        by_cases hl : i < ts2.length
        · rw [if_pos hl] at k1
          exact KX.unhold ((KX.mono s1 k1.kx).frame dj) rA dA b1 hl
        · rw [if_neg hl] at k1; exact k1.elim
      | ok d ts2 =>
        rw [q] at k1
        dsimp only at k1
        by_cases hl : i < ts2.length
        · rw [if_pos hl] at k1
          dsimp only at k1
          intro F2 M2 H2 kv s2 rk stB
          have aH : Same A H2 := jn_l.trans stB.hc.gh
          obtain ⟨M3, st2⟩ := stB.backIn (rA.mono s2) dA b1 hl
          have pv2 := pv.mono aH
          have rt := r.mono s2
          have g2 : getS i p (ts2.set i t0) = some u := by unfold getS; rw [set_at hl]; exact h1
          rw [g2] at k1
          unfold stoP at k1
          dsimp only at k1
          cases u with
          | l xs =>
            unfold setAt at k1
            cases q3 : toI d with
            | none => rw [q3] at k1; exact k1.elim
            | some j =>
              rw [q3] at k1
              dsimp only at k1
              cases q4 : ixN xs.length j with
              | none => rw [q4] at k1; exact k1.elim
              | some kk =>
                rw [q4] at k1
                dsimp only at k1
                obtain ⟨v1, a, ws, Mc, e2, pv3, hH, rs, dc, fin⟩ := st2.lstP dj (set_at hl) h1
                rw [b1] at e2; cases e2
                have := pv2.inj pv3
                subst this
                rw [toI_eq q3] at rk
                cases rk
                obtain ⟨M', st3, _⟩ := fin (ws.set kk v) (xs.set kk t) (jn Mc Mv) em (rs.setR (ixN_seq q4).2.1 rt dc jn_l (jn_r dc)) (Same.refl _) Same.empty Dj.em_r
                unfold putSl at k1
                rw [set_at hl] at k1
                exact .inl ⟨a, ws, j, kk, rfl, rfl, hH, by rw [rs.length]; exact q4, k1 F2 M' _ σ (s1.trans s2) st3 Pin.refl⟩
          | dk xs =>
            unfold setAt at k1
            cases q3 : Ar.D.key d with
            | none => rw [q3] at k1; exact k1.elim
            | some kk =>
              rw [q3] at k1
              dsimp only at k1
              by_cases hz : xs.length < lim ∧ (t.isZ = true ∨ (xs.map (·.1)).Nodup)
              · rw [if_pos hz] at k1
                dsimp only at k1
                obtain ⟨v1, a, ws, Mc, e2, pv3, hH, hkeys, rs, dc, fin⟩ := st2.dktP dj (set_at hl) h1
                rw [b1] at e2; cases e2
                have := pv2.inj pv3
                subst this
                have ek : kv = kV kk := by
                  rw [key_eq q3] at rk
                  exact rp_key rk
                subst ek
                have hlen : ws.length = xs.length := by rw [← List.length_map (f := (·.1)), hkeys, List.length_map]
                have hnew : ROs (gx X) F2 (jn Mc Mv) ((putK ws kk v).map (·.2)) ((putT kk t xs).map (·.2)) := by
                  unfold putK putT
                  rw [any_keys hkeys]
                  split
                  · rcases hz.2 with z | z
                    · cases t with
                      | z d0 =>
                        cases rt with
                        | z rt => exact (ROs.replZ rt hkeys rs).ext jn_l
                      | _ => cases z
                    · exact ROs.repl rt hkeys (by rw [hkeys]; exact z) rs dc jn_l (jn_r dc)
                  · rw [List.map_append, List.map_append]
                    exact rs.append (.cons (M1 := Mv) (M2 := em) rt .nil (Same.refl _) Same.empty Dj.em_r) dc jn_l (jn_r dc)
                obtain ⟨M', st3, _⟩ := fin (putK ws kk v) (putT kk t xs) (jn Mc Mv) em (putK_keys (α := Nat) hkeys) hnew (Same.refl _) Same.empty Dj.em_r
                unfold putSl at k1
                rw [set_at hl] at k1
                exact .inr ⟨a, _, rfl, DPut.k hH (by rw [hlen]; exact lim_lt' hz.1), k1 F2 M' _ σ (s1.trans s2) st3 Pin.refl⟩
              · rw [if_neg hz] at k1; exact k1.elim
          | _ => cases hu2
        · rw [if_neg hl] at k1; exact k1.elim
    · rw [if_neg hi] at k1; exact k1.elim
/-! way.f = e -/
def seF (i : Nat) (p : List Stp) (c f : Str) (t : T) (ts : List T) : Option T → RS
  | some (.ob c' fs) => if c' = c ∧ fs.length < 900 then .nx (putSl i p (.ob c' (putA f t fs)) ts) else .bad
  | _ => .bad
def setF (i : Nat) (p : List Stp) (c f : Str) (m : M T) : S := bindS m fun t ts1 => seF i p c f t ts1 (getS i p ts1)
theorem ps_setF {c f : Str} {ns : List Str} {m : M T} (C : ClsF X.K X.mg c ns) (hf : f ∈ ns) (ho : PE X o (tPth (gx X) i p)) (he : PE X e (tD (gx X) W m)) (hs : swapsWith e (some (.Attribute o f pos')) pos.line X.env = pure false) :
    PS X (.Assign [.Attribute o f pos'] e pos) (tS (gx X) W bs (setF i p c f m)) :=
  ps_imp (ps_fld ho he hs) fun D σ H ⟨F, Mm, G, ts, sa, k⟩ => tD_S sa k fun t ts1 _ k1 F1 Mv M1 H1 v s1 r st1 dj => by
    have k2 : KS (gx X) W bs F G σ D (seF i p c f t ts1 (getS i p ts1)) := k1
    clear k1
    cases e0 : getS i p ts1 with
    | none => rw [e0] at k2; exact k2.elim
    | some u =>
      rw [e0] at k2
      cases u with
      | ob c' xs =>
        unfold seF at k2
        dsimp only at k2
        by_cases hc : c' = c ∧ xs.length < 900
        · rw [if_pos hc] at k2
          obtain ⟨hc, hlen⟩ := hc
          subst hc
          obtain ⟨t0, h0, h1⟩ := getS_some e0
          obtain ⟨v0, a, C0, dx, fs, Mf, c1, c2, hC, hH, hkeys, rs, dc, fin⟩ := st1.obP dj h0 h1
          obtain ⟨C1, e1, e2, e3⟩ := C
          have : C0 = C1 := by rw [show X.mg c' = some (.ref C0) from hC] at e1; cases e1; rfl
          subst this
          have hl2 : fs.length = xs.length := by rw [← List.length_map (f := (·.1)), hkeys, List.length_map]
          have hnew : ROs (gx X) F1 (jn Mf Mv) ((putA f v fs).map (·.2)) ((putA f t xs).map (·.2)) := by
            cases q : getA f xs with
            | none => exact ROs.newA hkeys rs q r dc jn_l (jn_r dc)
            | some t1 =>
              obtain ⟨v1, A, B, g1, r1, sA, sB, dAB, back⟩ := ROs.pickA hkeys rs q
              have dvB : Dj Mv B := (dc.sub sB (Same.refl _)).symm
              exact back F1 Mv v t _ (Same.refl _) r dvB (jn_r dc) (sB.trans jn_l)
          obtain ⟨M', st2, _⟩ := fin (putA f v fs) (putA f t xs) (jn Mf Mv) em (putA_keys hkeys) hnew (Same.refl _) Same.empty Dj.em_r
          refine ⟨v0, .ref a, c1, c2, a, C0, dx, fs, rfl, hH, e2, e3 f hf, by omega, ?_⟩
          rw [putF_putA]
          unfold putSl at k2
          rw [h0] at k2
          exact k2 F1 M' _ σ s1 st2 Pin.refl
        · rw [if_neg hc] at k2; exact k2.elim
      | _ => exact k2.elim
end
end Ar
/-! ArPg: fields counted on; methods called; objects made. -/
namespace Ar
open PySem PySem.Spec PyProof.Rows L2
section
variable {X : Cx} {W : WX} {o e : Expr} {pos tpos : Pos} {i : Nat} {p : List Stp} {bs : List Nat}
/-! way.f op= e -/
def auF (i : Nat) (p : List Stp) (c f : Str) (g : Int → Int → Int) (d : Ar.D) (ts : List T) : Option T → RS
  | some (.ob c' fs) => (match getA f fs, toI d with
    | some (.z (.int x)), some y => if c' = c ∧ fs.length < 900 then .nx (putSl i p (.ob c' (putA f (.z (.int (g x y))) fs)) ts) else .bad
    | _, _ => .bad)
  | _ => .bad
def obF (c f : Str) : Option T → Bool
  | some (.ob c' fs) => (match getA f fs with | some (.z (.int _)) => decide (c' = c) | _ => false)
  | _ => false
def augF (i : Nat) (p : List Stp) (c f : Str) (g : Int → Int → Int) (m : M Ar.D) : S := fun ts => if obF c f (getS i p ts) = true then bindS (aside i m) (fun d ts1 => auF i p c f g d ts1 (getS i p ts1)) ts else .bad
theorem obF_eq {c f : Str} {u : Option T} (h : obF c f u = true) : ∃ fs x, u = some (.ob c fs) ∧ getA f fs = some (.z (.int x)) := by
  unfold obF at h
  split at h
  · rename_i c' fs
    split at h
    · rename_i x q
      rw [decide_eq_true_eq] at h
      subst h
      exact ⟨fs, x, rfl, q⟩
    · cases h
  · cases h
theorem ps_augF {op : Operator} {c f : Str} {ns : List Str} {m : M Ar.D} {rd : V → V → Hp → VK → Prop} {gg : Int → Int → Int} (C : ClsF X.K X.mg c ns) (hf : f ∈ ns) (hop : InOp X op rd) (hrd : ∀ (a b : Int) (H : Hp) (Q : VK), Q (.int (gg a b)) H → rd (.int a) (.int b) H Q)
    (ho : PE X o (tPth (gx X) i p)) (he : PE X e (tZ (gx X) W m)) : PS X (.AugAssign (.Attribute o f tpos) op e pos) (tS (gx X) W bs (augF i p c f gg m)) :=
  ps_imp (ps_fldaug ho he hop) fun D σ H ⟨F, Mm, G, ts, sa, k⟩ => by
    unfold augF at k
    by_cases hi : obF c f (getS i p ts) = true
    · rw [if_pos hi] at k
      obtain ⟨fs0, x0, e0, e1⟩ := obF_eq hi
      obtain ⟨t0, h0, h1⟩ := getS_some e0
      obtain ⟨v0, a, C0, dx, fs, Mf, c1, c2, hC, hH, hkeys, rs, dc, _⟩ := Sta.obP (Mv := em) sa Dj.em_l h0 h1
      obtain ⟨C1, k1, k2, k3⟩ := C
      have : C0 = C1 := by rw [show X.mg c = some (.ref C0) from hC] at k1; cases k1; rfl
      subst this
      obtain ⟨vx, _, _, gx1, rx, _⟩ := ROs.pickA hkeys rs e1
      have ex : vx = .int x0 := by cases rx with | z r => cases r; rfl
      subst ex
      obtain ⟨v, w, A, B, b1, rA, pv, sA, stA, dA⟩ := sa.hold h0 h1 (fun z => nomatch z)
      rw [b1] at c1
      cases c1
      have ew := (pv.mono sA).inj c2
      subst ew
      refine ⟨v0, .ref a, b1, c2, a, C0, dx, fs, .int x0, rfl, hH, k2, k3 f hf, by rw [lookup_getA]; exact gx1, F, B, jn A G, ts.set i .gone, stA, ?_⟩
      have k : KS (gx X) W bs F G σ D (bindS (aside i m) (fun d ts1 => auF i p c f gg d ts1 (getS i p ts1)) ts) := k
      unfold bindS aside at k
      rw [h0] at k
      dsimp only at k
      cases q : m (ts.set i .gone) with
      | bad => rw [q] at k; exact k
      | ex c' ts1 =>
        rw [q] at k
        dsimp only at k
        by_cases hl : i < ts1.length
        · rw [if_pos hl] at k
          exact KX.unhold k.kx rA dA b1 hl
        · rw [if_neg hl] at k; exact k.elim
      | ok d ts1 =>
        rw [q] at k
        dsimp only at k
        by_cases hl : i < ts1.length
        · rw [if_pos hl] at k
          dsimp only at k
          intro F1 M1 H1 y s1 ry stB
          have aH : Same A H1 := jn_l.trans stB.hc.gh
          obtain ⟨M3, st2⟩ := stB.backIn (rA.mono s1) dA b1 hl
          have pv2 := pv.mono aH
          have g2 : getS i p (ts1.set i t0) = some (.ob c fs0) := by unfold getS; rw [set_at hl]; exact h1
          rw [g2] at k
          unfold auF at k
          dsimp only at k
          rw [e1] at k
          cases q3 : toI d with
          | none => rw [q3] at k; exact k.elim
          | some j =>
            rw [q3] at k
            dsimp only at k
            by_cases hz : c = c ∧ fs0.length < 900
            · rw [if_pos hz] at k
              rw [toI_eq q3] at ry
              cases ry
              obtain ⟨v1, a1, C2, dx1, fs1, Mf1, d1, d2, hC2, hH1, hkeys1, rs1, dc1, fin⟩ := Sta.obP (Mv := em) st2 Dj.em_l (set_at hl) h1
              rw [b1] at d1; cases d1
              have := pv2.inj d2
              cases this
              have : C0 = C2 := by have z := hC.symm.trans hC2; cases z; rfl
              subst this
              have hl2 : fs1.length = fs0.length := by rw [← List.length_map (f := (·.1)), hkeys1, List.length_map]
              obtain ⟨v3, A3, B3, g3, r3, sA3, sB3, dAB3, back⟩ := ROs.pickA hkeys1 rs1 e1
              have hnew := back F1 em (.int (gg x0 j)) (.z (.int (gg x0 j))) Mf1 (Same.refl _) (.z (.int _)) Dj.em_l Same.empty sB3
              obtain ⟨M', st4, _⟩ := fin (putA f (.int (gg x0 j)) fs1) (putA f (.z (.int (gg x0 j))) fs0) Mf1 em (putA_keys hkeys1) hnew jn_l Same.empty Dj.em_r
              refine hrd x0 j H1 _ ⟨dx1, fs1, hH1, by omega, ?_⟩
              rw [putF_putA]
              unfold putSl at k
              rw [set_at hl] at k
              exact k F1 M' _ σ s1 st4 Pin.refl
            · rw [if_neg hz] at k; exact k.elim
        · rw [if_neg hl] at k; exact k.elim
    · rw [if_neg hi] at k; exact k.elim
end
/-! ### methods -/
section
variable {X : Cx} {CX : CXT} {k : Nat} {f C : Addr} {fd : FuncData} {ps : List Str} {sp : Sp} {E : L2.St → XK} {m : Str} {pos apos : Pos} {e o : Expr} {es : List Expr} {ta : TE} {t : TA} {pl : Sem Bool}
/-- o.m(e, ..), what leaves it by the slots -/
def tMtS (C : Addr) (m : Str) (sp : Sp) (E : L2.St → XK) (ta : TE) (t : TA) : TE := fun σ H Q => ta σ H fun x H1 => ∃ a dx fs, x = .ref a ∧ H1 a = some (.ins C dx fs) ∧ fs.lookup m = none ∧ t σ H1 fun vs H2 => sp (x :: vs) H2 Q (E σ)
theorem pe_mtS (ho : PE X o ta) (cl : Cls X.K C) (me : Meth X.K C m f) (Fo : FnOk X.prog X.w X.K X.mg X.base CX k f fd ps sp) (rm : Room k X.A) (bd : Binds X.K fd ps []) (px : ∀ σ, PassesAt CX X σ (E σ)) (hs : PA X (e :: es) t) (n : (e :: es).all nst = true)
    (ht : eval (.Call (.Attribute o m apos) (e :: es) [] pos) X.env = (do
      let ov ← eval o X.env
      standAt apos.atName
      let (f, first) ← holding [ov] (getMethod ov m pl)
      callWith pos f first (backTo pos (starEach (e :: es) X.env)) (backToKw pos (keywordEach [] X.env)))) :
    PE X (.Call (.Attribute o m apos) (e :: es) [] pos) (tMtS C m sp E ta t) := by
  rw [List.all_cons, Bool.and_eq_true] at n
  constructor
  intro pins s σ H Q I h
  apply PySem.W.methodCall_KW (pl := pl) _ ht
  apply thn (ho.run pins s σ H _ I h)
  rintro u s1 ⟨x, H1, I1, rx, a, dx, fs, rfl, ea, hl, q⟩
  cases rx
  apply getmeth_ok I1 ea cl me hl
  apply PySem.W.callWith_K (first := [.ref a]) (h₀ := X.base) I.ok.mod.kin me.kp _ (star_of n.1 _ _) (star_all n.2 _ _)
  apply thn (hs.run pos pins s1 σ H1 _ I1 q)
  rintro us s2 ⟨vs, H2, I2, r, q2⟩
  exact ⟨I2.kIn, run_fnS (us := .ref a :: us) (vs := .ref a :: vs) Fo rm bd (px σ) I2 (.cons rfl r) q2⟩
end
section
variable {X : Cx} {CX : CXT} {k : Nat} {f C : Addr} {fd : FuncData} {ps : List Str} {sp : Sp} {E : L2.St → XK} {m : Str} {pos apos : Pos} {o : Expr} {ta : TE} {pl : Sem Bool}
theorem pe_mtS0 (ho : PE X o ta) (cl : Cls X.K C) (me : Meth X.K C m f) (Fo : FnOk X.prog X.w X.K X.mg X.base CX k f fd ps sp) (rm : Room k X.A) (bd : Binds X.K fd ps []) (px : ∀ σ, PassesAt CX X σ (E σ))
    (ht : eval (.Call (.Attribute o m apos) [] [] pos) X.env = (do
      let ov ← eval o X.env
      standAt apos.atName
      let (f, first) ← holding [ov] (getMethod ov m pl)
      callWith pos f first (backTo pos (starEach [] X.env)) (backToKw pos (keywordEach [] X.env)))) :
    PE X (.Call (.Attribute o m apos) [] [] pos) (tMtS C m sp E ta (fun _ H Q => Q [] H)) := by
  constructor
  intro pins s σ H Q I h
  apply PySem.W.methodCall_KW (pl := pl) _ ht
  apply thn (ho.run pins s σ H _ I h)
  rintro u s1 ⟨x, H1, I1, rx, a, dx, fs, rfl, ea, hl, q⟩
  cases rx
  apply getmeth_ok I1 ea cl me hl
  exact PySem.W.callWith_K0 (first := [.ref a]) I1.kIn me.kp (run_fnS (us := [.ref a]) (vs := [.ref a]) Fo rm bd (px σ) I1 (.cons rfl .nil) q)
end
/-! the rows behind a receiver -/
def isOb (c m : Str) : T → Bool
  | .ob c' fs => decide (c' = c) && (getA m fs).isNone
  | .z (.ob c' fs) => decide (c' = c) && (getA m fs).isNone
  | _ => false
theorem getA_none_keys {κ α β : Type} [DecidableEq κ] {k : κ} : ∀ {xs : List (κ × α)} {ys : List (κ × β)}, xs.map (·.1) = ys.map (·.1) → getA k ys = none → getA k xs = none
  | [], [], _, _ => rfl
  | (a, x) :: xs, (b, y) :: ys, e, h => by
    rw [List.map_cons, List.map_cons] at e
    injection e with e1 e2
    simp only at e1
    subst e1
    rw [getA] at h ⊢
    by_cases q : a = k
    · rw [if_pos q] at h; cases h
    · rw [if_neg q] at h ⊢; exact getA_none_keys e2 h
  | [], _ :: _, e, _ => by cases e
  | _ :: _, [], e, _ => by cases e
theorem RO.isOb {g : Gx} {F M H : Hp} {v : V} {t : T} {c m : Str} {C : Addr} (r : RO g F M v t) (h : isOb c m t = true) (hC : g.mg c = some (.ref C)) (sf : Same F H) (sm : Same M H) : ∃ a dx fs, v = .ref a ∧ H a = some (.ins C dx fs) ∧ fs.lookup m = none := by
  cases t with
  | ob c' ts =>
    have h' : (decide (c' = c) && (getA m ts).isNone) = true := h
    rw [Bool.and_eq_true, decide_eq_true_eq, Option.isNone_iff_eq_none] at h'
    obtain ⟨rfl, hn⟩ := h'
    cases r with
    | @ob _ Mf a C0 dx _ fs _ h1 h2 h3 h4 h5 h6 h7 h8 =>
      have : C0 = C := by have z := h1.symm.trans hC; cases z; rfl
      subst this
      exact ⟨a, dx, fs, rfl, sm _ _ h2, by rw [lookup_getA]; exact getA_none_keys h7 hn⟩
  | z d =>
    cases d with
    | ob c' ts =>
      have h' : (decide (c' = c) && (getA m ts).isNone) = true := h
      rw [Bool.and_eq_true, decide_eq_true_eq, Option.isNone_iff_eq_none] at h'
      obtain ⟨rfl, hn⟩ := h'
      cases r with
      | z r => cases r with
        | @ob a C0 dx _ fs _ h1 h2 h3 h4 h5 =>
          have : C0 = C := by have z := h1.symm.trans hC; cases z; rfl
          subst this
          exact ⟨a, dx, fs, rfl, sf _ _ h2, by rw [lookup_getA]; exact getA_none_keys h4 hn⟩
    | _ => cases h
  | _ => cases h
def obN (c m : Str) : Option T → Bool
  | some t => isOb c m t
  | none => false
/-- what a class's method promises -/
def MDef (K : PySem.W.Frag) (mg : Str → Option Value) (c m qual : Str) (st : Stmt) (ps : List Str) : Prop := ∃ C fa fd, mg c = some (.ref C) ∧ Cls K C ∧ Meth K C m fa ∧ Fun K m qual st fa fd ∧ Binds K fd ps []
def MCal (P : Program) (w : World) (K : PySem.W.Frag) (mg : Str → Option Value) (base : Heap) (k : Nat) (c m : Str) (ps : List Str) (f : List T → R T) : Prop :=
  ∃ C fa fd, mg c = some (.ref C) ∧ Cls K C ∧ Meth K C m fa ∧ FnOk P w K mg base (L2.CX P w) k fa fd ps (spF ⟨K, mg, P, w⟩ ps.length f) ∧ Binds K fd ps []
section
variable {P : Program} {w : World} {K : PySem.W.Frag} {mg : Str → Option Value} {base : Heap}
theorem mcal_of {c m qual : Str} {st : Stmt} {N ps : List Str} {k ex : Nat} {b : S} {kp : List Bool} (hex : N.length - ps.length = ex) (F : MDef K mg c m qual st ps) (Sc : FnScope N ps (defScope st)) (hkp : kp.length = ps.length)
    (hbody : ∀ (f : Addr) (cdv : Value) (A : Around) (outer : List Env) (s : Shared) (H : Hp) (E : XK), Room k (A.deeper (envOfC qual (defScope st) s.heap.objs.size f cdv)) →
      PSs (cxOf (L2.CX P w) P w K mg base N qual (defScope st) f cdv A outer s H E) (defBody st) (tS ⟨K, mg, P, w⟩ (fun c d _ H => E c d H) (keptOf 0 kp) b)) :
    MCal P w K mg base (k + 1) c m ps (bodyR ex kp b) := by
  subst hex
  obtain ⟨C, fa, fd, e, cl, me, F1, bd⟩ := F
  exact ⟨C, fa, fd, e, cl, me, fn_okM F1 Sc hkp (hbody fa), bd⟩
theorem MCal.mono {c m : Str} {ps : List Str} {f : List T → R T} {k k2 : Nat} (C : MCal P w K mg base k c m ps f) (h : k ≤ k2) : MCal P w K mg base k2 c m ps f := by
  obtain ⟨C, fa, fd, e, cl, me, F1, bd⟩ := C
  exact ⟨C, fa, fd, e, cl, me, F1.mono h, bd⟩
end
end Ar
/-! ArPh: calls of methods; objects made. -/
namespace Ar
open PySem PySem.Spec PyProof.Rows L2
section
variable {X : Cx} {W : WX} {o e : Expr} {es : List Expr} {pos apos p : Pos} {i : Nat}
/-- the row of a name that is taken, parted -/
theorem arTk_imp {ms : M (List T)} {tks : List (Option Nat)} {σ : L2.St} {H : Hp} {Q : List V → Hp → Prop} (h : tAr (gx X) W (some i :: tks) (argTk i ms) σ H Q) :
    ∃ v, σ[i]? = some (some v) ∧ tAr (gx X) W tks ms σ H fun vs H1 => Q (v :: vs) H1 := by
  obtain ⟨F, Mm, G, ts, st, k⟩ := h
  unfold argTk at k
  split at k
  · rename_i hl
    have : ∃ t, ts[i]? = some t ∧ t ≠ .gone := by
      unfold live at hl
      cases q : ts[i]? with
      | none => rw [q] at hl; cases hl
      | some t => rw [q] at hl; exact ⟨t, rfl, by rintro rfl; cases hl⟩
    obtain ⟨t, q, n⟩ := this
    obtain ⟨v, _, _, _, e1, _⟩ := st.slot q n
    refine ⟨v, e1, F, Mm, G, ts, st, ?_⟩
    cases q2 : ms ts with
    | bad => rw [bind_bad q2] at k; exact k
    | ex c ts' => rw [bind_ex q2] at k; exact k
    | ok tl ts1 =>
      rw [bind_ok q2] at k
      intro F1 Mv M1 H1 vs s1 r1 st1 dj hl1 hk
      have own : ∀ t1 : T, ts1[i]? = some t1 → t1 ≠ .gone → KL (gx X) W F G σ (some i :: tks) Q (.ok (t1 :: tl) (ts1.set i .gone)) → Q (v :: vs) H1 := fun t1 e2 n2 k2 => by
        obtain ⟨u, A, B, e3, r3, st3, d3⟩ := st1.take e2 n2
        rw [e1] at e3
        cases e3
        have dAv : Dj Mv A := (d3.sub (Same.refl _) jn_l).symm
        have dAG : Dj A G := d3.sub (Same.refl _) (jn_r dj)
        have e4 : jn A (jn Mv G) = jn (jn Mv A) G := jn_swap dAv
        rw [e4] at st3
        refine k2 F1 (jn Mv A) B H1 (v :: vs) s1 (.cons r3 r1 (jn_r dAv) jn_l dAv.symm) st3 (dj_jn dj dAG) (by simp [hl1]) fun k j u h1 h2 => ?_
        cases k with
        | zero => simp at h1 h2; subst h1 h2; exact e1
        | succ k => exact hk k j u (by simpa using h1) (by simpa using h2)
      cases q3 : ts1[i]? with
      | none =>
        have : (mv i >>= fun t => M.ret (t :: tl)) ts1 = .bad := bind_bad (by unfold mv; rw [q3])
        rw [this] at k; exact k.elim
      | some t1 =>
        cases t1 with
        | gone =>
          have : (mv i >>= fun t => M.ret (t :: tl)) ts1 = .bad := bind_bad (by unfold mv; rw [q3])
          rw [this] at k; exact k.elim
        | z d =>
          have e5 : (mv i >>= fun t => M.ret (t :: tl)) ts1 = .ok (.z d :: tl) ts1 := bind_ok (by unfold mv; rw [q3])
          rw [e5] at k
          obtain ⟨u, A, B, ws, e3, r3, _⟩ := st1.slot q3 (fun z => nomatch z)
          rw [e1] at e3
          cases e3
          cases r3 with
          | z r3 =>
            refine k F1 Mv M1 H1 (v :: vs) s1 (.cons (M1 := em) (.z r3) r1 Same.empty (Same.refl _) Dj.em_l) st1 dj (by simp [hl1]) fun k j u h1 h2 => ?_
            cases k with
            | zero => simp at h1 h2; subst h1 h2; exact e1
            | succ k => exact hk k j u (by simpa using h1) (by simpa using h2)
        | l ts' =>
          have e5 : (mv i >>= fun t => M.ret (t :: tl)) ts1 = .ok (.l ts' :: tl) (ts1.set i .gone) := bind_ok (by unfold mv; rw [q3])
          rw [e5] at k; exact own _ q3 (fun z => nomatch z) k
        | dk ts' =>
          have e5 : (mv i >>= fun t => M.ret (t :: tl)) ts1 = .ok (.dk ts' :: tl) (ts1.set i .gone) := bind_ok (by unfold mv; rw [q3])
          rw [e5] at k; exact own _ q3 (fun z => nomatch z) k
        | dt ts' =>
          have e5 : (mv i >>= fun t => M.ret (t :: tl)) ts1 = .ok (.dt ts' :: tl) (ts1.set i .gone) := bind_ok (by unfold mv; rw [q3])
          rw [e5] at k; exact own _ q3 (fun z => nomatch z) k
        | ob c ts' =>
          have e5 : (mv i >>= fun t => M.ret (t :: tl)) ts1 = .ok (.ob c ts' :: tl) (ts1.set i .gone) := bind_ok (by unfold mv; rw [q3])
          rw [e5] at k; exact own _ q3 (fun z => nomatch z) k
  · exact k.elim
/-! x.m(e, ..), x a slot that holds its object -/
def methN (c m : Str) (i : Nat) (f : List T → R T) (tks : List (Option Nat)) (ms : M (List T)) : M T := fun ts => if obN c m ts[i]? = true then callM f (some i :: tks) (argTk i ms) ts else .bad
theorem obN_eq {c m : Str} {u : Option T} (h : obN c m u = true) : ∃ t, u = some t ∧ isOb c m t = true ∧ t ≠ .gone := by
  unfold obN at h
  split at h
  · rename_i t
    exact ⟨t, rfl, h, by rintro rfl; cases h⟩
  · cases h
theorem methN_imp {c m : Str} {C : Addr} {f : List T → R T} {tks : List (Option Nat)} {ms : M (List T)} {σ : L2.St} {H : Hp} {Q : VK} {n : Nat} (hC : X.mg c = some (.ref C)) (hn : tks.length + 1 = n) (h : tD (gx X) W (methN c m i f tks ms) σ H Q) :
    ∃ v, σ[i]? = some (some v) ∧ ∃ a dx fs, v = .ref a ∧ H a = some (.ins C dx fs) ∧ fs.lookup m = none ∧ tAr (gx X) W tks ms σ H fun vs H1 => spF (gx X) n f (v :: vs) H1 Q (WE W σ) := by
  obtain ⟨F, Mm, G, ts, st, k⟩ := h
  have k : KD (gx X) W F G σ Q (methN c m i f tks ms ts) := k
  unfold methN at k
  by_cases hi : obN c m ts[i]? = true
  · rw [if_pos hi] at k
    obtain ⟨t, e1, e2, n1⟩ := obN_eq hi
    obtain ⟨v, hv, hr⟩ := arTk_imp (call_ok (n := n) (tks := some i :: tks) hn ⟨F, Mm, G, ts, st, k⟩)
    obtain ⟨v', A, B, _, e3, r, sA, _⟩ := st.slot e1 n1
    rw [hv] at e3; cases e3
    obtain ⟨a, dx, fs, q1, q2, q3⟩ := r.isOb e2 hC st.hc.fh (sA.trans st.hc.mh)
    exact ⟨v, hv, a, dx, fs, q1, q2, q3, hr⟩
  · rw [if_neg hi] at k; exact k.elim
theorem pe_methN {x c m : Str} {k : Nat} {ps : List Str} {f : List T → R T} {tks : List (Option Nat)} {ms : M (List T)} {pl : Sem Bool} (C : MCal X.prog X.w X.K X.mg X.base k c m ps f) (hr : Room k X.A)
    (hN : X.N[i]? = some x) (hv : Vis X.env.scope x) (hd : (x == ("__debug__" : Str)) = false) (hcd : (x == ("__classdict__" : Str)) = false) (tk : Takes X W) (ha : PA X (e :: es) (tAr (gx X) W tks ms)) (hl : tks.length + 1 = ps.length) (n : (e :: es).all nst = true)
    (ht : eval (.Call (.Attribute (.Name x p) m apos) (e :: es) [] pos) X.env = (do
      let ov ← eval (.Name x p) X.env
      standAt apos.atName
      let (f, first) ← holding [ov] (getMethod ov m pl)
      callWith pos f first (backTo pos (starEach (e :: es) X.env)) (backToKw pos (keywordEach [] X.env)))) :
    PE X (.Call (.Attribute (.Name x p) m apos) (e :: es) [] pos) (tD (gx X) W (methN c m i f tks ms)) := by
  obtain ⟨C0, fa, fd, e0, cl, me, Fo, bd⟩ := C
  exact pe_imp (pe_mtS (E := WE W) (pe_var hN hv hd hcd) cl me Fo hr bd (fun σ => passAt tk σ) ha n ht) fun σ H Q h => methN_imp e0 hl h
theorem tAr_nil {σ : L2.St} {H : Hp} {Q : List V → Hp → Prop} (h : tAr (gx X) W [] (M.ret []) σ H Q) : Q [] H := by
  obtain ⟨F, Mm, G, ts, st, k⟩ := h
  exact k F em Mm H [] (Same.refl _) .nil st Dj.em_l rfl (fun k i v h => by simp at h)
theorem pe_methN0 {x c m : Str} {k : Nat} {ps : List Str} {f : List T → R T} {pl : Sem Bool} (C : MCal X.prog X.w X.K X.mg X.base k c m ps f) (hr : Room k X.A)
    (hN : X.N[i]? = some x) (hv : Vis X.env.scope x) (hd : (x == ("__debug__" : Str)) = false) (hcd : (x == ("__classdict__" : Str)) = false) (tk : Takes X W) (hl : 1 = ps.length)
    (ht : eval (.Call (.Attribute (.Name x p) m apos) [] [] pos) X.env = (do
      let ov ← eval (.Name x p) X.env
      standAt apos.atName
      let (f, first) ← holding [ov] (getMethod ov m pl)
      callWith pos f first (backTo pos (starEach [] X.env)) (backToKw pos (keywordEach [] X.env)))) :
    PE X (.Call (.Attribute (.Name x p) m apos) [] [] pos) (tD (gx X) W (methN c m i f [] (M.ret []))) := by
  obtain ⟨C0, fa, fd, e0, cl, me, Fo, bd⟩ := C
  refine pe_imp (pe_mtS0 (E := WE W) (pe_var hN hv hd hcd) cl me Fo hr bd (fun σ => passAt tk σ) ht) fun σ H Q h => ?_
  obtain ⟨v, h1, a, dx, fs, q1, q2, q3, q4⟩ := methN_imp (tks := []) e0 (n := ps.length) hl h
  exact ⟨v, h1, a, dx, fs, q1, q2, q3, tAr_nil q4⟩
/-! e.m(e, ..) of anything that comes -/
def argOb (c m : Str) (mo : M T) (ms : M (List T)) : M (List T) := mo >>= fun t => if isOb c m t = true then (ms >>= fun tl => M.ret (t :: tl)) else stop
def methE (c m : Str) (mo : M T) (f : List T → R T) (tks : List (Option Nat)) (ms : M (List T)) : M T := callM f (none :: tks) (argOb c m mo ms)
theorem argOb_imp {c m : Str} {C : Addr} {mo : M T} {ms : M (List T)} {tks : List (Option Nat)} {σ : L2.St} {H : Hp} {Q : List V → Hp → Prop} (hC : X.mg c = some (.ref C)) (h : tAr (gx X) W (none :: tks) (argOb c m mo ms) σ H Q) :
    tD (gx X) W mo σ H fun v H1 => ∃ a dx fs, v = .ref a ∧ H1 a = some (.ins C dx fs) ∧ fs.lookup m = none ∧ tAr (gx X) W tks ms σ H1 fun vs H2 => Q (v :: vs) H2 := by
  obtain ⟨F, Mm, G, ts, st, k⟩ := h
  refine tD_then (K := KL (gx X) W F G σ (none :: tks) Q) st id (fun _ _ z => z) k fun t ts1 _ k1 F1 Mv M1 H1 v s1 r st1 dj => ?_
  by_cases hi : isOb c m t = true
  · rw [if_pos hi] at k1
    obtain ⟨a, dx, fs, q1, q2, q3⟩ := r.isOb hi hC st1.hc.fh (jn_l.trans st1.hc.gh)
    refine ⟨a, dx, fs, q1, q2, q3, F1, M1, jn Mv G, ts1, st1, ?_⟩
    cases q : ms ts1 with
    | bad => rw [bind_bad q] at k1; exact k1
    | ex c' ts' =>
      rw [bind_ex q] at k1
      intro F' M' H' C' s2 st2 hC'
      obtain ⟨s3, st3⟩ := st2.freeze dj
      exact k1 _ M' H' C' ((s1.trans s2).trans s3) st3 hC'
    | ok tl ts2 =>
      rw [bind_ok q] at k1
      intro F2 Mw M2 H2 vs s2 r2 st2 dj2 hl hk
      have d12 : Dj Mv Mw := (dj2.sub (Same.refl _) jn_l).symm
      have dwG : Dj Mw G := dj2.sub (Same.refl _) (jn_r dj)
      rw [jn_swap d12] at st2
      refine k1 F2 (jn Mv Mw) M2 H2 (v :: vs) (s1.trans s2) (.cons (r.mono s2) r2 jn_l (jn_r d12) d12) st2 (dj_jn dj dwG) (by simp [hl]) fun k i u h1 h2 => ?_
      cases k with
      | zero => simp at h1
      | succ k => exact hk k i u (by simpa using h1) (by simpa using h2)
  · rw [if_neg hi] at k1; exact k1.elim
theorem pe_methE {c m : Str} {k : Nat} {ps : List Str} {mo : M T} {f : List T → R T} {tks : List (Option Nat)} {ms : M (List T)} {pl : Sem Bool} (C : MCal X.prog X.w X.K X.mg X.base k c m ps f) (hr : Room k X.A)
    (ho : PE X o (tD (gx X) W mo)) (tk : Takes X W) (ha : PA X (e :: es) (tAr (gx X) W tks ms)) (hl : tks.length + 1 = ps.length) (n : (e :: es).all nst = true)
    (ht : eval (.Call (.Attribute o m apos) (e :: es) [] pos) X.env = (do
      let ov ← eval o X.env
      standAt apos.atName
      let (f, first) ← holding [ov] (getMethod ov m pl)
      callWith pos f first (backTo pos (starEach (e :: es) X.env)) (backToKw pos (keywordEach [] X.env)))) :
    PE X (.Call (.Attribute o m apos) (e :: es) [] pos) (tD (gx X) W (methE c m mo f tks ms)) := by
  obtain ⟨C0, fa, fd, e0, cl, me, Fo, bd⟩ := C
  exact pe_imp (pe_mtS (E := WE W) ho cl me Fo hr bd (fun σ => passAt tk σ) ha n ht) fun σ H Q h => argOb_imp e0 (call_ok (n := ps.length) (tks := none :: tks) hl h)
theorem pe_methE0 {c m : Str} {k : Nat} {ps : List Str} {mo : M T} {f : List T → R T} {pl : Sem Bool} (C : MCal X.prog X.w X.K X.mg X.base k c m ps f) (hr : Room k X.A)
    (ho : PE X o (tD (gx X) W mo)) (tk : Takes X W) (hl : 1 = ps.length)
    (ht : eval (.Call (.Attribute o m apos) [] [] pos) X.env = (do
      let ov ← eval o X.env
      standAt apos.atName
      let (f, first) ← holding [ov] (getMethod ov m pl)
      callWith pos f first (backTo pos (starEach [] X.env)) (backToKw pos (keywordEach [] X.env)))) :
    PE X (.Call (.Attribute o m apos) [] [] pos) (tD (gx X) W (methE c m mo f [] (M.ret []))) := by
  obtain ⟨C0, fa, fd, e0, cl, me, Fo, bd⟩ := C
  refine pe_imp (pe_mtS0 (E := WE W) ho cl me Fo hr bd (fun σ => passAt tk σ) ht) fun σ H Q h => ?_
  obtain ⟨F, Mm, G, ts, st, k⟩ := argOb_imp (Q := fun vs H1 => spF (gx X) ps.length f vs H1 Q (WE W σ)) e0 (call_ok (n := ps.length) (tks := [none]) hl h)
  refine ⟨F, Mm, G, ts, st, ?_⟩
  cases q : mo ts with
  | bad => rw [q] at k; exact k
  | ex c' ts' => rw [q] at k; exact k
  | ok t ts' =>
    rw [q] at k
    intro F' Mv M' H' v s r st' d
    obtain ⟨a, dx, fs, q1, q2, q3, q4⟩ := k F' Mv M' H' v s r st' d
    exact ⟨a, dx, fs, q1, q2, q3, tAr_nil q4⟩
end
end Ar
/-! ArPi: objects made; methods of what an owned object holds. -/
namespace Ar
open PySem PySem.Spec PyProof.Rows L2
section
variable {X : Cx} {CX : CXT} {k : Nat} {f C : Addr} {fd : FuncData} {ps : List Str} {sp : Sp} {E : L2.St → XK} {x : Str} {pos p : Pos} {e : Expr} {es : List Expr} {t : TA}
theorem run_mkS {pins : List (Addr × Obj)} {σ : L2.St} {H : Hp} {s : Shared} {Q : VK} {us : List Value} {vs : List V} (mk : Mk X.K C f) (Fo : FnOk X.prog X.w X.K X.mg X.base CX k f fd ps sp) (rm : Room (k + 1) X.A) (bd : Binds X.K fd ps [])
    (px : PassesAt CX X σ (E σ)) (I : Inv X pins σ H s) (r : Vals vs us)
    (h : ∀ a dx, H a = none → H dx = none → dx ≠ a → sp (.ref a :: vs) (upd (upd H dx (.own a)) a (.ins C dx [])) (fun v H2 => v = .non ∧ Q (.ref a) H2) (E σ)) :
    wpAny (model X.prog X.w) X.A (call (.ref C) us) (EP X pins σ Q) X.xe s := by
  have new := Inv.made (C := C) I
  have ask := h _ _ (I.hok.fresh (Nat.le_succ _)) (I.hok.fresh (Nat.le_refl _)) (Nat.ne_of_lt (Nat.lt_succ_self _))
  have rows : Vals (V.ref (s.heap.objs.size + 1) :: vs) (Value.ref (s.heap.objs.size + 1) :: us) := .cons rfl r
  have len : (Value.ref (s.heap.objs.size + 1) :: us).length = ps.length := rows.length.symm.trans (Fo.len _ _ _ _ ask)
  have b := bd _ (Value.ref (s.heap.objs.size + 1) :: us) new.kIn (by rw [List.append_nil]; exact len)
  rw [List.append_nil] at b
  have body := Fo.run _ X.stack _ _ ⟨Value.ref (s.heap.objs.size + 1) :: us, []⟩ _ _ _ (E σ) (rm.make C us []) (new.env0.make C us []) b rows ask
  refine wpAny_call (make_map (f := f) I.kIn mk.makes mk.init (beq_iff_eq.mp mk.fn) (codeAny_mono body ?_))
  intro out s1 ho
  cases out with
  | error y => exact px pins _ _ y s1 new ho
  | ok fl =>
    cases fl with
    | ret u =>
      obtain ⟨v, H1, I1, rv, rfl, q⟩ := new.after ho
      exact ⟨rv, V.ref (s.heap.objs.size + 1), H1, I1, rfl, q⟩
    | next => exact ho.elim
    | brk => exact ho.elim
    | cont => exact ho.elim
def tMkS (C : Addr) (sp : Sp) (E : L2.St → XK) (t : TA) : TE := fun σ H Q => t σ H fun vs H1 => ∀ a dx, H1 a = none → H1 dx = none → dx ≠ a → sp (.ref a :: vs) (upd (upd H1 dx (.own a)) a (.ins C dx [])) (fun v H2 => v = .non ∧ Q (.ref a) H2) (E σ)
theorem pe_mkS (mk : Mk X.K C f) (Fo : FnOk X.prog X.w X.K X.mg X.base CX k f fd ps sp) (rm : Room (k + 1) X.A) (hg : Gl X x) (hm : X.mg x = some (.ref C)) (bd : Binds X.K fd ps []) (px : ∀ σ, PassesAt CX X σ (E σ))
    (hs : PA X (e :: es) t) (hd : (x == ("__debug__" : Str)) = false) (n : (e :: es).all nst = true) : PE X (.Call (.Name x p) (e :: es) [] pos) (tMkS C sp E t) := by
  rw [List.all_cons, Bool.and_eq_true] at n
  constructor
  intro pins s σ H Q I h
  apply wpAny_Call_Name_kw
  apply ld_glob I hg hm _ hd
  apply PySem.W.callWith_K (h₀ := X.base) I.ok.mod.kin mk.kp _ (star_of n.1 _ _) (star_all n.2 _ _)
  apply thn (hs.run pos pins s σ H _ I h)
  rintro us s1 ⟨vs, H1, I1, r, q⟩
  exact ⟨I1.kIn, run_mkS mk Fo rm bd (px σ) I1 r q⟩
theorem pe_mkS0 (mk : Mk X.K C f) (Fo : FnOk X.prog X.w X.K X.mg X.base CX k f fd ps sp) (rm : Room (k + 1) X.A) (hg : Gl X x) (hm : X.mg x = some (.ref C)) (bd : Binds X.K fd ps []) (px : ∀ σ, PassesAt CX X σ (E σ)) (hd : (x == ("__debug__" : Str)) = false) :
    PE X (.Call (.Name x p) [] [] pos) (tMkS C sp E (fun _ H Q => Q [] H)) := by
  constructor
  intro pins s σ H Q I h
  apply wpAny_Call_Name_kw
  apply ld_glob I hg hm _ hd
  exact PySem.W.callWith_K0 (first := []) I.kIn mk.kp (run_mkS (us := []) mk Fo rm bd (px σ) I .nil h)
end
/-- a class, by its __init__ -/
def CDef (K : PySem.W.Frag) (mg : Str → Option Value) (c qual : Str) (st : Stmt) (ps : List Str) : Prop := ∃ C fa fd, mg c = some (.ref C) ∧ Mk K C fa ∧ Fun K "__init__" qual st fa fd ∧ Binds K fd ps []
def CCal (P : Program) (w : World) (K : PySem.W.Frag) (mg : Str → Option Value) (base : Heap) (k : Nat) (c : Str) (ps : List Str) (f : List T → R T) : Prop :=
  ∃ C fa fd, mg c = some (.ref C) ∧ Mk K C fa ∧ FnOk P w K mg base (L2.CX P w) k fa fd ps (spF ⟨K, mg, P, w⟩ ps.length f) ∧ Binds K fd ps []
section
variable {P : Program} {w : World} {K : PySem.W.Frag} {mg : Str → Option Value} {base : Heap}
theorem ccal_of {c qual : Str} {st : Stmt} {N ps : List Str} {k ex : Nat} {b : S} {kp : List Bool} (hex : N.length - ps.length = ex) (F : CDef K mg c qual st ps) (Sc : FnScope N ps (defScope st)) (hkp : kp.length = ps.length)
    (hbody : ∀ (f : Addr) (cdv : Value) (A : Around) (outer : List Env) (s : Shared) (H : Hp) (E : XK), Room k (A.deeper (envOfC qual (defScope st) s.heap.objs.size f cdv)) →
      PSs (cxOf (L2.CX P w) P w K mg base N qual (defScope st) f cdv A outer s H E) (defBody st) (tS ⟨K, mg, P, w⟩ (fun c d _ H => E c d H) (keptOf 0 kp) b)) :
    CCal P w K mg base (k + 1) c ps (bodyR ex kp b) := by
  subst hex
  obtain ⟨C, fa, fd, e, mk, F1, bd⟩ := F
  exact ⟨C, fa, fd, e, mk, fn_okM F1 Sc hkp (hbody fa), bd⟩
theorem CCal.mono {c : Str} {ps : List Str} {f : List T → R T} {k k2 : Nat} (C : CCal P w K mg base k c ps f) (h : k ≤ k2) : CCal P w K mg base k2 c ps f := by
  obtain ⟨C, fa, fd, e, mk, F1, bd⟩ := C
  exact ⟨C, fa, fd, e, mk, F1.mono h, bd⟩
end
section
variable {X : Cx} {W : WX} {o e : Expr} {es : List Expr} {pos apos p : Pos} {i : Nat}
def mkRes (tks : List (Option Nat)) (tl ts1 : List T) : R T → R T
  | .ok (.z .non) (fin :: fins) => .ok fin (giveB tks tl fins ts1)
  | .ex c (_ :: fins) => .ex c (giveB tks tl fins ts1)
  | _ => .bad
def makeM (c : Str) (f : List T → R T) (tks : List (Option Nat)) (ms : M (List T)) : M T := fun ts => match ms ts with
  | .ok tl ts1 => mkRes tks tl ts1 (f (.ob c [] :: tl))
  | .ex c ts1 => .ex c ts1
  | .bad => .bad
theorem make_ok {c : Str} {C : Addr} {f : List T → R T} {tks : List (Option Nat)} {ms : M (List T)} {σ : L2.St} {H : Hp} {Q : VK} {n : Nat} (hC : X.mg c = some (.ref C)) (hn : tks.length + 1 = n) (h : tD (gx X) W (makeM c f tks ms) σ H Q) :
    tAr (gx X) W tks ms σ H fun vs H1 => ∀ a dx, H1 a = none → H1 dx = none → dx ≠ a → spF (gx X) n f (.ref a :: vs) (upd (upd H1 dx (.own a)) a (.ins C dx [])) (fun v H2 => v = .non ∧ Q (.ref a) H2) (WE W σ) := by
  obtain ⟨F, Mm, G, ts, st, k⟩ := h
  refine ⟨F, Mm, G, ts, st, ?_⟩
  have k : KD (gx X) W F G σ Q (makeM c f tks ms ts) := k
  unfold makeM at k
  cases q : ms ts with
  | bad => rw [q] at k; exact k
  | ex c ts1 => rw [q] at k; exact k
  | ok tl ts1 =>
    rw [q] at k
    dsimp only at k
    intro F1 Mv M1 H1 vs s1 r1 st1 dj hl hk a dx na nd hne
    have hc := st1.hc
    have dM1v : Dj M1 Mv := hc.mg.sub (Same.refl _) jn_l
    have dM1G : Dj M1 G := hc.mg.sub (Same.refl _) (jn_r dj)
    have dF1v : Dj F1 Mv := hc.fg.sub (Same.refl _) jn_l
    have dF1G : Dj F1 G := hc.fg.sub (Same.refl _) (jn_r dj)
    obtain ⟨ws, rw', qw⟩ := st1.vs
    -- the new object's two places
    have fr : ∀ {Z : Hp}, Same Z H1 → Z a = none ∧ Z dx = none := fun {Z} s => ⟨s.free na, s.free nd⟩
    have cD : ∀ {Z : Hp}, Same Z H1 → Dj (upd (upd em dx (.own a)) a (.ins C dx [])) Z := fun {Z} s => dj_upd_l (dj_upd_l Dj.em_l (fr s).2) (fr s).1
    have up : Same H1 (upd (upd H1 dx (.own a)) a (.ins C dx [])) := (same_upd nd).trans (same_upd (by rw [upd_ne (Ne.symm hne)]; exact na))
    have cH : Same (upd (upd em dx (.own a)) a (.ins C dx [])) (upd (upd H1 dx (.own a)) a (.ins C dx [])) := fun b o z => by
      by_cases q1 : b = a
      · subst q1; rw [upd_same] at z ⊢; exact z
      · rw [upd_ne q1] at z ⊢
        by_cases q2 : b = dx
        · subst q2; rw [upd_same] at z ⊢; exact z
        · rw [upd_ne q2] at z; cases z
    have ro : RO (gx X) F1 (upd (upd em dx (.own a)) a (.ins C dx [])) (.ref a) (.ob c []) := .ob (M' := em) hC upd_same (by rw [upd_ne hne]; exact upd_same) Same.empty rfl rfl rfl .nil
    have vH : Same Mv H1 := jn_l.trans hc.gh
    have gH : Same G H1 := (jn_r dj).trans hc.gh
    have dCv := cD vH
    refine ⟨by rw [List.length_cons, ← hl]; exact hn, F1, jn (upd (upd em dx (.own a)) a (.ins C dx [])) Mv, jn M1 G, .ob c [] :: tl, ?_, .cons ro r1 jn_l (jn_r dCv) dCv, ?_⟩
    · exact ⟨hc.fh.trans up, jn_sub cH (vH.trans up), jn_sub (hc.mh.trans up) (gH.trans up), dj_jn_r (cD hc.fh).symm dF1v, dj_jn_r hc.fm dF1G, dj_jn (dj_jn_r (cD hc.mh) (cD gH)) (dj_jn_r dM1v.symm dj), (hc.ft.cell fun _ z => by cases z).cell fun _ z => by cases z⟩
    · cases q2 : f (.ob c [] :: tl) with
      | bad => rw [q2] at k; exact k
      | ex c' fins =>
        rw [q2] at k
        cases fins with
        | nil => exact k.elim
        | cons fin fins =>
          intro F2 M2 H2 C' s2 rf hc2 hC'
          have k : KX (gx X) W F G σ c' (giveB tks tl fins ts1) := k
          cases rf with
          | @cons _ A2 B2 _ _ _ _ ra rb sa sb dab =>
            have d21 : Dj M2 M1 := hc2.mg.sub (Same.refl _) jn_l
            have d2G : Dj M2 G := hc2.mg.sub (Same.refl _) (jn_r dM1G)
            obtain ⟨vs', r', q'⟩ := give_ok tks tl fins vs B2 rb hk ts1 ws M1 (rw'.mono s2) qw (d21.sub sb (Same.refl _)).symm
            refine k F2 (jn M1 B2) H2 C' (s1.trans s2) ⟨?_, ⟨vs', r', q'⟩, ?_⟩ hC'
            · exact ⟨hc2.fh, jn_sub (jn_l.trans hc2.gh) (sb.trans hc2.mh), (jn_r dM1G).trans hc2.gh, dj_jn_r (hc2.fg.sub (Same.refl _) jn_l) (hc2.fm.sub (Same.refl _) sb), hc2.fg.sub (Same.refl _) (jn_r dM1G), dj_jn dM1G (d2G.sub sb (Same.refl _)), hc2.ft⟩
            · rw [giveB_length]; exact st1.len
      | ok t fins =>
        rw [q2] at k
        cases t with
        | z d =>
          cases d with
          | non =>
            cases fins with
            | nil => exact k.elim
            | cons fin fins =>
              have k : KD (gx X) W F G σ Q (.ok fin (giveB tks tl fins ts1)) := k
              intro F2 Mr M2 H2 v s2 r2 rf hc2 dr
              refine ⟨by cases r2 with | z r => cases r; rfl, ?_⟩
              cases rf with
              | @cons _ A2 B2 _ _ _ _ ra rb sa sb dab =>
                have drG : Dj Mr G := dr.sub (Same.refl _) (jn_r dM1G)
                have d2r : Dj M2 Mr := hc2.mg.sub (Same.refl _) jn_l
                have d21 : Dj M2 M1 := hc2.mg.sub (Same.refl _) (jn_l.trans (jn_r dr))
                have d2G : Dj M2 G := hc2.mg.sub (Same.refl _) ((jn_r dM1G).trans (jn_r dr))
                have hM1 : Same M1 H2 := (jn_l.trans (jn_r dr)).trans hc2.gh
                have hG : Same G H2 := ((jn_r dM1G).trans (jn_r dr)).trans hc2.gh
                obtain ⟨vs', r', q'⟩ := give_ok tks tl fins vs B2 rb hk ts1 ws M1 (rw'.mono s2) qw (d21.sub sb (Same.refl _)).symm
                have dAG : Dj A2 G := d2G.sub sa (Same.refl _)
                refine k F2 A2 (jn M1 B2) H2 (.ref a) (s1.trans s2) ra ⟨?_, ⟨vs', r', q'⟩, ?_⟩ dAG
                · exact ⟨hc2.fh, jn_sub hM1 (sb.trans hc2.mh), jn_sub (sa.trans hc2.mh) hG, dj_jn_r (hc2.fg.sub (Same.refl _) (jn_l.trans (jn_r dr))) (hc2.fm.sub (Same.refl _) sb), dj_jn_r (hc2.fm.sub (Same.refl _) sa) (hc2.fg.sub (Same.refl _) ((jn_r dM1G).trans (jn_r dr))),
                    dj_jn (dj_jn_r (d21.sub sa (Same.refl _)).symm dM1G) (dj_jn_r dab.symm (d2G.sub sb (Same.refl _))), hc2.ft⟩
                · rw [giveB_length]; exact st1.len
          | _ => exact k.elim
        | _ => exact k.elim
theorem pe_makeM {c : Str} {k : Nat} {ps : List Str} {f : List T → R T} {tks : List (Option Nat)} {ms : M (List T)} (C : CCal X.prog X.w X.K X.mg X.base k c ps f) (hr : Room (k + 1) X.A) (hg : Gl X c) (tk : Takes X W) (ha : PA X (e :: es) (tAr (gx X) W tks ms))
    (hl : tks.length + 1 = ps.length) (hd : (c == ("__debug__" : Str)) = false) (n : (e :: es).all nst = true) : PE X (.Call (.Name c p) (e :: es) [] pos) (tD (gx X) W (makeM c f tks ms)) := by
  obtain ⟨C0, fa, fd, e0, mk, Fo, bd⟩ := C
  exact pe_imp (pe_mkS (E := WE W) mk Fo hr hg e0 bd (fun σ => passAt tk σ) ha hd n) fun σ H Q h => make_ok e0 hl h
theorem pe_makeM0 {c : Str} {k : Nat} {ps : List Str} {f : List T → R T} (C : CCal X.prog X.w X.K X.mg X.base k c ps f) (hr : Room (k + 1) X.A) (hg : Gl X c) (tk : Takes X W) (hl : 1 = ps.length) (hd : (c == ("__debug__" : Str)) = false) :
    PE X (.Call (.Name c p) [] [] pos) (tD (gx X) W (makeM c f [] (M.ret []))) := by
  obtain ⟨C0, fa, fd, e0, mk, Fo, bd⟩ := C
  exact pe_imp (pe_mkS0 (E := WE W) mk Fo hr hg e0 bd (fun σ => passAt tk σ) hd) fun σ H Q h => tAr_nil (make_ok (tks := []) (n := ps.length) e0 hl h)
end
end Ar
/-! ArPj: dicts walked: they stand locked meanwhile. -/
namespace Ar
open PySem PySem.Spec PyProof.Rows L2
/-- the dict b, locked or not -/
def Lk (b : HO) : Prop := (∃ k, b = .dK k) ∨ ∃ k, b = .dT k
def DkU (b u : HO) : Prop := Lk b ∧ (u = b ∨ ∃ o, u = .frz o b)
theorem dkL {kvs : List (Key × V)} : DkU (.dK kvs) (.dK kvs) := ⟨.inl ⟨_, rfl⟩, .inl rfl⟩
theorem dkF {kvs : List (Key × V)} {o : Obj} : DkU (.dK kvs) (.frz o (.dK kvs)) := ⟨.inl ⟨_, rfl⟩, .inr ⟨o, rfl⟩⟩
theorem dtL {kvs : List (List Key × V)} : DkU (.dT kvs) (.dT kvs) := ⟨.inr ⟨_, rfl⟩, .inl rfl⟩
theorem dtF {kvs : List (List Key × V)} {o : Obj} : DkU (.dT kvs) (.frz o (.dT kvs)) := ⟨.inr ⟨_, rfl⟩, .inr ⟨o, rfl⟩⟩
section
variable {g : Gx} {F H : Hp} {p : Addr} {u u' bb : HO}
theorem Lk.nf {b : HO} (h : Lk b) : ∀ o k, b ≠ .frz o k := fun o k z => by
  rcases h with ⟨_, e⟩ | ⟨_, e⟩ <;> (rw [e] at z; cases z)
theorem DkU.ne_of (h : DkU bb u) {w : HO} (n1 : ¬ Lk w) (n2 : ∀ o k, w ≠ .frz o k) : u ≠ w := by
  obtain ⟨l, rfl | ⟨o, rfl⟩⟩ := h
  · exact fun e => n1 (e ▸ l)
  · exact fun e => n2 _ _ e.symm
theorem swap_at {a : Addr} {w : HO} (hp : F p = some u) (hu : DkU bb u) (e : F a = some w) (n1 : ¬ Lk w := by rintro (⟨_, z⟩ | ⟨_, z⟩) <;> cases z) (n2 : ∀ o k, w ≠ .frz o k := by intro _ _ z; cases z) : upd F p u' a = some w := by
  by_cases q : a = p
  · subst q; rw [hp] at e; cases e; exact absurd rfl (hu.ne_of n1 n2)
  · rw [upd_ne q]; exact e
theorem swap_rd {a : Addr} {w : HO} (hp : F p = some u) (hu : DkU bb u) (hu' : DkU bb u') (e : Rd F a w) (nf : ∀ o k, w ≠ .frz o k := by intro _ _ z; cases z) : Rd (upd F p u') a w := by
  by_cases q : a = p
  · subst q
    have hw : w = bb := by
      obtain ⟨l, hu⟩ := hu
      rcases e with e | ⟨o, e⟩
      · rw [hp] at e; cases e
        rcases hu with h | ⟨o, h⟩
        · exact h
        · exact absurd h (nf _ _)
      · rw [hp] at e; cases e
        rcases hu with h | ⟨o', h⟩
        · exact absurd h.symm (l.nf _ _)
        · cases h; rfl
    subst hw
    obtain ⟨_, rfl | ⟨o, rfl⟩⟩ := hu'
    · exact .inl upd_same
    · exact .inr ⟨o, upd_same⟩
  · rcases e with e | ⟨o, e⟩
    · exact .inl (by rw [upd_ne q]; exact e)
    · exact .inr ⟨o, by rw [upd_ne q]; exact e⟩
mutual
theorem Rp.swap (hp : F p = some u) (hu : DkU bb u) (hu' : DkU bb u') : ∀ {v d}, Rp g F v d → Rp g (upd F p u') v d
  | _, _, .non => .non
  | _, _, .bl b => .bl b
  | _, _, .int b => .int b
  | _, _, .str b => .str b
  | _, _, .fn b => .fn b
  | _, _, .lst h r => .lst (swap_at hp hu h) (RpAll.swap hp hu hu' r)
  | _, _, .tup h r => .tup (swap_at hp hu h) (RpAll.swap hp hu hu' r)
  | _, _, .ktup h l r => .ktup h l (RpAll.swap hp hu hu' r)
  | _, _, .dk h k r => .dk (swap_rd hp hu hu' h) k (RpAll.swap hp hu hu' r)
  | _, _, .dt h k r => .dt (swap_rd hp hu hu' h) k (RpAll.swap hp hu hu' r)
  | _, _, .st h k r => .st (swap_at hp hu h) k r
  | _, _, .scr h => .scr (by
      rcases h with h | h
      · exact .inl (swap_rd hp hu hu' h)
      · exact .inr h)
  | _, _, .ob h1 h2 h3 h4 h5 => .ob h1 (swap_at hp hu h2) (swap_at hp hu h3) h4 (RpAll.swap hp hu hu' h5)
theorem RpAll.swap (hp : F p = some u) (hu : DkU bb u) (hu' : DkU bb u') : ∀ {v d}, RpAll g F v d → RpAll g (upd F p u') v d
  | _, _, .nil => .nil
  | _, _, .cons h t => .cons (Rp.swap hp hu hu' h) (RpAll.swap hp hu hu' t)
end
mutual
theorem RO.swap (hp : F p = some u) (hu : DkU bb u) (hu' : DkU bb u') : ∀ {M v t}, RO g F M v t → RO g (upd F p u') M v t
  | _, _, _, .z h => .z (h.swap hp hu hu')
  | _, _, _, .l h1 h2 h3 h4 => .l h1 h2 h3 (ROs.swap hp hu hu' h4)
  | _, _, _, .dk h1 h2 h3 h4 h5 => .dk h1 h2 h3 h4 (ROs.swap hp hu hu' h5)
  | _, _, _, .dt h1 h2 h3 => .dt h1 h2 (h3.swap hp hu hu')
  | _, _, _, .ob h1 h2 h3 h4 h5 h6 h7 h8 => .ob h1 h2 h3 h4 h5 h6 h7 (ROs.swap hp hu hu' h8)
  | _, _, _, .gone => .gone
theorem ROs.swap (hp : F p = some u) (hu : DkU bb u) (hu' : DkU bb u') : ∀ {M v t}, ROs g F M v t → ROs g (upd F p u') M v t
  | _, _, _, .nil => .nil
  | _, _, _, .cons h1 h2 h3 h4 h5 => .cons (RO.swap hp hu hu' h1) (ROs.swap hp hu hu' h2) h3 h4 h5
end
theorem upd_dj {A B : Hp} {o : HO} (d : Dj A B) (h : ∃ x, A p = some x) : Dj (upd A p o) B := by
  obtain ⟨x, h⟩ := h
  exact dj_upd_l d (d.ne h)
theorem upd_off {A B : Hp} {o : HO} (n : A p = none) (s : Same A B) : Same A (upd B p o) := fun b x e => by rw [upd_ne (ne_of_none e n)]; exact s _ _ e
theorem upd_both {A B : Hp} {o : HO} (s : Same A B) : Same (upd A p o) (upd B p o) := fun b x e => by
  by_cases q : b = p
  · subst q; rw [upd_same] at e ⊢; exact e
  · rw [upd_ne q] at e ⊢; exact s _ _ e
theorem Sta.swap {Mm G : Hp} {σ : L2.St} {ts : List T} (st : Sta g F Mm G H σ ts) (hp : F p = some u) (hu : DkU bb u) (hu' : DkU bb u') : Sta g (upd F p u') Mm G (upd H p u') σ ts := by
  obtain ⟨vs, r, q⟩ := st.vs
  have hc := st.hc
  have nM := hc.fm.ne hp
  have nG := hc.fg.ne hp
  exact ⟨⟨upd_both hc.fh, upd_off nM hc.mh, upd_off nG hc.gh, upd_dj hc.fm ⟨_, hp⟩, upd_dj hc.fg ⟨_, hp⟩, hc.mg, fun b xs e => by
    by_cases z : b = p
    · subst z
      rw [upd_same] at e ⊢
      exact e
    · rw [upd_ne z] at e ⊢; exact hc.ft b xs e⟩, ⟨vs, r.swap hp hu hu', q⟩, st.len⟩
theorem PV.swap (hp : H p = some u) (hu : DkU bb u) (hu' : DkU bb u') : ∀ {q : List Stp} {v w : V}, PV g H v q w → PV g (upd H p u') v q w
  | [], _, _, h => h
  | .f c x :: q, _, _, ⟨a, C, dx, fs, y, e, h1, h2, h3, h4⟩ => ⟨a, C, dx, fs, y, e, swap_at hp hu h1, h2, h3, PV.swap hp hu hu' h4⟩
  | .k x :: q, _, _, ⟨a, ks, y, e, h1, h2, h3⟩ => ⟨a, ks, y, e, swap_rd hp hu hu' h1, h2, PV.swap hp hu hu' h3⟩
theorem upd_upd {A : Hp} {o o' : HO} : upd (upd A p o) p o' = upd A p o' := by
  funext b
  by_cases q : b = p
  · subst q; rw [upd_same, upd_same]
  · rw [upd_ne q, upd_ne q, upd_ne q]
end
/-! ### a way in what is frozen -/
def D.get : D → List Stp → Option D
  | d, [] => some d
  | .ob c' fs, .f c x :: p => if c' = c then (match getA x fs with | some t => D.get t p | none => none) else none
  | .dk kvs, .k s :: p => (match getA s kvs with | some t => D.get t p | none => none)
  | _, _ => none
termination_by _ p => p.length
@[simp] theorem dget_nil (d : D) : D.get d [] = some d := by rw [D.get]
@[simp] theorem dget_f (c' fs c x p) : D.get (.ob c' fs) (.f c x :: p) = if c' = c then (match getA x fs with | some t => D.get t p | none => none) else none := by rw [D.get]
@[simp] theorem dget_kk (kvs s p) : D.get (.dk kvs) (.k s :: p) = (match getA s kvs with | some t => D.get t p | none => none) := by rw [D.get]
theorem Rp.get {g : Gx} {F H : Hp} (s : Same F H) : ∀ (p : List Stp) {v : V} {d0 d : D}, Rp g F v d0 → D.get d0 p = some d → ∃ w, PV g H v p w ∧ Rp g F w d
  | [], v, d0, d, r, h => by rw [dget_nil] at h; cases h; exact ⟨v, rfl, r⟩
  | .f c x :: p, v, d0, d, r, h => by
    cases d0 with
    | ob c' ds =>
      rw [dget_f] at h
      by_cases hc : c' = c
      · rw [if_pos hc] at h
        subst hc
        cases q : getA x ds with
        | none => rw [q] at h; cases h
        | some d1 =>
          rw [q] at h
          cases r with
          | @ob a C dx _ fs _ h1 h2 h3 h4 h5 =>
            obtain ⟨v1, e1, r1⟩ := RpAll.getA h4 h5 q
            obtain ⟨w, pv, rw'⟩ := Rp.get s p r1 h
            exact ⟨w, ⟨a, C, dx, fs, v1, rfl, s _ _ h2, h1, by rw [lookup_getA]; exact e1, pv⟩, rw'⟩
      · rw [if_neg hc] at h; cases h
    | _ => rw [D.get] at h <;> first | cases h | (intros; simp_all)
  | .k x :: p, v, d0, d, r, h => by
    cases d0 with
    | dk ds =>
      rw [dget_kk] at h
      cases q : getA x ds with
      | none => rw [q] at h; cases h
      | some d1 =>
        rw [q] at h
        cases r with
        | @dk a kvs _ h1 h2 h3 =>
          obtain ⟨v1, e1, r1⟩ := RpAll.getA h2 h3 q
          obtain ⟨w, pv, rw'⟩ := Rp.get s p r1 h
          exact ⟨w, ⟨a, kvs, v1, rfl, Same.rdm s h1, by rw [valV_getA]; exact e1, pv⟩, rw'⟩
    | _ => rw [D.get] at h <;> first | cases h | (intros; simp_all)
def getF (i : Nat) (p : List Stp) (ts : List T) : Option D := match ts[i]? with
  | some (.z d0) => D.get d0 p
  | _ => none
def kys (ds : List (Key × D)) : List D := ds.map fun q => kD q.1
/-! ### for k in way -/
theorem src_keys {g : Gx} {F1 : Hp} {a : Addr} {o : Obj} {kvs : List (Key × V)} {ds : List (Key × D)} (h : F1 a = some (.frz o (.dK kvs))) (hk : kvs.map (·.1) = ds.map (·.1)) : Src g F1 (Itk a o kvs) (kys ds) := by
  have hl : kvs.length = (kys ds).length := by rw [kys, List.length_map, ← List.length_map (f := (·.1)) (as := kvs), hk, List.length_map]
  refine ⟨fun i F Mm G H σ ts s st hi => ⟨st.hc.fh _ _ (s _ _ h), by omega⟩, fun i F Mm G H σ ts s st hi => ⟨st.hc.fh _ _ (s _ _ h), by omega⟩, fun i d F Mm G H σ ts x H' s st hd hy => ?_⟩
  obtain ⟨e, k, v, e1, e2⟩ := hy
  subst e e2
  refine ⟨F, Same.refl _, ?_, st⟩
  have : (kvs.map (·.1))[i]? = some k := by rw [List.getElem?_map, e1]; rfl
  rw [hk, List.getElem?_map] at this
  unfold kys at hd
  rw [List.getElem?_map] at hd
  cases q : ds[i]? with
  | none => rw [q] at hd; cases hd
  | some p =>
    rw [q] at hd this
    cases hd
    cases this
    obtain ⟨k0, d0⟩ := p
    cases k0 with
    | inl i => exact .int i
    | inr i => exact .str i
def forK (i : Nat) (p : List Stp) (put : D → List T → Option (List T)) (body : S) : S := fun ts => match getF i p ts with
  | some (.dk ds) => noEx (loopS put body (kys ds) ts)
  | _ => .bad
section
variable {X : Cx} {W : WX} {bs : List Nat} {tg e : Expr} {body : List Stmt} {pos : Pos} {i : Nat} {p : List Stp} {put : D → List T → Option (List T)} {n : S}
theorem KS.unEx {g : Gx} {F G : Hp} {σ : L2.St} {D : Ends} {r : RS} (k : KS g W bs F G σ D (noEx r)) : KS g W bs F G σ D r := by
  cases r with
  | ex c t => exact k.elim
  | _ => exact k
theorem KS.lock {g : Gx} {F G : Hp} {σ : L2.St} {D : Ends} {r : RS} {a : Addr} {kvs : List (Key × V)} {od : Obj} (k : KS g W bs F G σ D (noEx r)) (hp : F a = some (.dK kvs)) :
    KS g W bs (upd F a (.frz od (.dK kvs))) G σ ⟨fun σ' H' => H' a = some (.frz od (.dK kvs)) ∧ D.nx σ' (upd H' a (.dK kvs)), fun v H' => H' a = some (.frz od (.dK kvs)) ∧ D.rt v (upd H' a (.dK kvs)), fun σ' H' => H' a = some (.frz od (.dK kvs)) ∧ D.bk σ' (upd H' a (.dK kvs)), fun σ' H' => H' a = some (.frz od (.dK kvs)) ∧ D.ct σ' (upd H' a (.dK kvs))⟩ r := by
  have back : ∀ {F' : Hp}, Same (upd F a (.frz od (.dK kvs))) F' → F' a = some (.frz od (.dK kvs)) ∧ Same F (upd F' a (.dK kvs)) := fun {F'} s => by
    refine ⟨s _ _ upd_same, fun b x e => ?_⟩
    by_cases q : b = a
    · subst q; rw [hp] at e; rw [upd_same]; exact e
    · rw [upd_ne q]; exact s _ _ (by rw [upd_ne q]; exact e)
  have d1 : DkU (.dK kvs) (.frz od (.dK kvs)) := dkF
  have d2 : DkU (.dK kvs) (.dK kvs) := dkL
  cases r with
  | ex c t => exact k.elim
  | bad => exact k
  | nx ts => intro F' M' H' σ' s st q; obtain ⟨b1, b2⟩ := back s; exact ⟨st.hc.fh _ _ b1, k _ M' _ σ' b2 (st.swap b1 d1 d2) q⟩
  | bk ts => intro F' M' H' σ' s st q; obtain ⟨b1, b2⟩ := back s; exact ⟨st.hc.fh _ _ b1, k _ M' _ σ' b2 (st.swap b1 d1 d2) q⟩
  | ct ts => intro F' M' H' σ' s st q; obtain ⟨b1, b2⟩ := back s; exact ⟨st.hc.fh _ _ b1, k _ M' _ σ' b2 (st.swap b1 d1 d2) q⟩
  | rt t ts => intro F' Mv M' H' σ' v s r st d q; obtain ⟨b1, b2⟩ := back s; exact ⟨st.hc.fh _ _ b1, k _ Mv M' _ σ' v b2 (r.swap b1 d1 d2) (st.swap b1 d1 d2) d q⟩
theorem getF_at {ts : List T} {d : D} (h : getF i p ts = some d) : ∃ d0, ts[i]? = some (.z d0) ∧ D.get d0 p = some d := by
  unfold getF at h
  split at h
  · exact ⟨_, by assumption, h⟩
  · cases h
theorem ps_forK (hp : PassesOwn (model X.prog X.w) X.A X.env X.xe) (hc : X.calm = true) (ho : PE X e (tPth (gx X) i p)) (hg : PG X tg (gD (gx X) bs put)) (hb : PSs X body (tS (gx X) W bs n)) (hs : ∀ x, foldedSetIterable e X.env x = pure x) :
    PS X (.For tg e body [] pos) (tS (gx X) W bs (forK i p put n)) := by
  have base := ps_for hp hc (pi_keys (tg := tg) ho) hg hb hs (pos := pos)
  refine ⟨fun pins s σ H D I ⟨F, Mm, G, ts, st, k⟩ => ?_⟩
  have k : KS (gx X) W bs F G σ D (forK i p put n ts) := k
  unfold forK at k
  cases q : getF i p ts with
  | none => rw [q] at k; exact k.elim
  | some d =>
    rw [q] at k
    cases d with
    | dk ds =>
      dsimp only at k
      obtain ⟨d0, h0, h1⟩ := getF_at q
      obtain ⟨v0, A, B, _, e1, r, _⟩ := st.slot h0 (fun z => nomatch z)
      cases r with
      | z r =>
        obtain ⟨w, pv, rw'⟩ := r.get st.hc.fh p h1
        cases rw' with
        | @dk a kvs _ hr hk ra =>
          rcases hr with hr | ⟨o, hr⟩
          · refine (ps_lock base).run pins s σ H D I ⟨a, .dK kvs, st.hc.fh _ _ hr, trivial, fun od => ?_⟩
            have st2 := st.swap (u' := .frz od (.dK kvs)) hr dkL dkF
            refine ⟨v0, .ref a, e1, pv.swap (st.hc.fh _ _ hr) dkL dkF, a, od, rfl, .inl ⟨kvs, upd_same, ?_⟩⟩
            exact for_coreK (m := fun us => .ok (kys ds) us) st2 (KS.lock k hr) _ Mm _ (Itk a od kvs) (Same.refl _) st2 (src_keys upd_same hk)
          · refine base.run pins s σ H D I ⟨v0, .ref a, e1, pv, a, o, rfl, .inl ⟨kvs, st.hc.fh _ _ hr, ?_⟩⟩
            exact for_coreK (m := fun us => .ok (kys ds) us) st k.unEx _ Mm _ (Itk a o kvs) (Same.refl _) st (src_keys hr hk)
    | _ => exact k.elim
/-! ### [.. for k in way ..] -/
def compK (i : Nat) (p : List Stp) (vs : List Nat) (put : D → List T → Option (List T)) (mc : M Bool) (me : M D) : M T := fun ts => match getF i p ts with
  | some (.dk ds) => (match compM (fun us => .ok (kys ds) us) vs put mc me ts with
    | .ok t ts' => .ok t ts'
    | _ => .bad)
  | _ => .bad
theorem pe_compK {elt : Expr} {ifs : List Expr} {scope : Scope} {own : List (Str × Nat)} {mc : M Bool} {me : M D}
    (hc : X.calm = true) (hN : X.N.Nodup) (ho : PE X e (tPth (gx X) i p)) (ok : BlkOk X.N X.env.scope scope own)
    (hg : ∀ (s : Shared) (H : Hp) (C : Addr) (cl : List (Str × Addr)) (fp : List Addr), PG (X.blk s H scope (compEnvC scope cl C X.env) fp) tg (gD (gx X) (others X.N.length (own.map (·.2))) put))
    (ht : ∀ (s : Shared) (H : Hp) (C : Addr) (cl : List (Str × Addr)) (fp : List Addr), PTs (X.blk s H scope (compEnvC scope cl C X.env) fp) ifs (tB (gx X) W0 mc))
    (he : ∀ (s : Shared) (H : Hp) (C : Addr) (cl : List (Str × Addr)) (fp : List Addr), PE (X.blk s H scope (compEnvC scope cl C X.env) fp) elt (tZ (gx X) W0 me)) (hs : ∀ x, foldedSetIterable e X.env x = pure x)
    (hput : ∀ d ts ts', put d ts = some ts' → ts'.length = ts.length) : PE X (.ListComp elt [⟨tg, e, ifs, 0⟩] scope pos) (tD (gx X) W (compK i p (own.map (·.2)) put mc me)) := by
  have base := pe_lc hc hN (pi_keys (tg := tg) ho) ok hg ht he hs (pos := pos)
  refine ⟨fun pins s σ H Q I ⟨F, Mm, G, ts, st, k⟩ => ?_⟩
  have k : KD (gx X) W F G σ Q (compK i p (own.map (·.2)) put mc me ts) := k
  unfold compK at k
  cases q : getF i p ts with
  | none => rw [q] at k; exact k.elim
  | some d =>
    rw [q] at k
    cases d with
    | dk ds =>
      dsimp only at k
      cases q2 : compM (fun us => .ok (kys ds) us) (own.map (·.2)) put mc me ts with
      | bad => rw [q2] at k; exact k.elim
      | ex c t => rw [q2] at k; exact k.elim
      | ok t ts' =>
        rw [q2] at k
        dsimp only at k
        obtain ⟨d0, h0, h1⟩ := getF_at q
        obtain ⟨v0, A, B, _, e1, r, _⟩ := st.slot h0 (fun z => nomatch z)
        cases r with
        | z r =>
          obtain ⟨w, pv, rw'⟩ := r.get st.hc.fh p h1
          cases rw' with
          | @dk a kvs _ hr hk ra =>
            rcases hr with hr | ⟨o, hr⟩
            · refine (pe_lock base).run pins s σ H Q I ⟨a, .dK kvs, st.hc.fh _ _ hr, trivial, fun od => ?_⟩
              have st2 := st.swap (u' := .frz od (.dK kvs)) hr dkL dkF
              refine ⟨v0, .ref a, e1, pv.swap (st.hc.fh _ _ hr) dkL dkF, a, od, rfl, .inl ⟨kvs, upd_same, ?_⟩⟩
              refine comp_coreK (W := W) (mi := fun us => .ok (kys ds) us) (put := put) (mc := mc) (me := me) (vs := own.map (·.2)) (Q := fun v H' => H' a = some (.frz od (.dK kvs)) ∧ Q v (upd H' a (.dK kvs))) hput I.len st2 ?_ _ Mm _ (Itk a od kvs) (Same.refl _) st2 (src_keys upd_same hk)
              rw [q2]
              intro F' Mv M' H' v s2 r2 st3 d3
              have b1 : F' a = some (.frz od (.dK kvs)) := s2 _ _ upd_same
              have b2 : Same F (upd F' a (.dK kvs)) := fun b x e => by
                by_cases z : b = a
                · subst z; rw [hr] at e; rw [upd_same]; exact e
                · rw [upd_ne z]; exact s2 _ _ (by rw [upd_ne z]; exact e)
              exact ⟨st3.hc.fh _ _ b1, k _ Mv M' _ v b2 (r2.swap b1 dkF dkL) (st3.swap b1 dkF dkL) d3⟩
            · refine base.run pins s σ H Q I ⟨v0, .ref a, e1, pv, a, o, rfl, .inl ⟨kvs, st.hc.fh _ _ hr, ?_⟩⟩
              refine comp_coreK (W := W) (mi := fun us => .ok (kys ds) us) (put := put) (mc := mc) (me := me) (vs := own.map (·.2)) (Q := Q) hput I.len st ?_ _ Mm _ (Itk a o kvs) (Same.refl _) st (src_keys hr hk)
              rw [q2]
              exact k
    | _ => exact k.elim
end
end Ar
/-! ArPn: the keys of a dict by tuples, walked by a comprehension. -/
namespace Ar
open PySem PySem.Spec PyProof.Rows L2
def kysT (ds : List (List Key × D)) : List D := ds.map fun q => .tup (q.1.map kD)
theorem rp_keysD {g : Gx} {F : Hp} : ∀ ks : List Key, RpAll g F (ks.map kV) (ks.map kD)
  | [] => .nil
  | .inl i :: ks => .cons (.int i) (rp_keysD ks)
  | .inr x :: ks => .cons (.str x) (rp_keysD ks)
theorem src_keysT {g : Gx} {F1 : Hp} {a : Addr} {o : Obj} {kvs : List (List Key × V)} {ds : List (List Key × D)} (h : F1 a = some (.frz o (.dT kvs))) (hk : kvs.map (·.1) = ds.map (·.1)) : Src g F1 (Itkt a o kvs) (kysT ds) := by
  have hl : kvs.length = (kysT ds).length := by rw [kysT, List.length_map, ← List.length_map (f := (·.1)) (as := kvs), hk, List.length_map]
  refine ⟨fun i F Mm G H σ ts s st hi => ⟨st.hc.fh _ _ (s _ _ h), by omega⟩, fun i F Mm G H σ ts s st hi => ⟨st.hc.fh _ _ (s _ _ h), by omega⟩, fun i d F Mm G H σ ts x H' s st hd hy => ?_⟩
  obtain ⟨e, k, v, q, e1, e2, e3⟩ := hy
  subst e; subst e2
  refine ⟨F, Same.refl _, ?_, st⟩
  have : (kvs.map (·.1))[i]? = some k := by rw [List.getElem?_map, e1]; rfl
  rw [hk, List.getElem?_map] at this
  unfold kysT at hd
  rw [List.getElem?_map] at hd
  cases z : ds[i]? with
  | none => rw [z] at hd; cases hd
  | some p =>
    rw [z] at hd this
    cases hd
    cases this
    exact .tup (st.hc.ft _ _ e3) (rp_keysD _)
def compKT (i : Nat) (p : List Stp) (vs : List Nat) (put : D → List T → Option (List T)) (mc : M Bool) (me : M D) : M T := fun ts => match getF i p ts with
  | some (.dt ds) => (match compM (fun us => .ok (kysT ds) us) vs put mc me ts with
    | .ok t ts' => .ok t ts'
    | _ => .bad)
  | _ => .bad
section
variable {X : Cx} {W : WX} {tg e : Expr} {pos : Pos} {i : Nat} {p : List Stp} {put : D → List T → Option (List T)}
theorem pe_compKT {elt : Expr} {ifs : List Expr} {scope : Scope} {own : List (Str × Nat)} {mc : M Bool} {me : M D}
    (hc : X.calm = true) (hN : X.N.Nodup) (ho : PE X e (tPth (gx X) i p)) (ok : BlkOk X.N X.env.scope scope own)
    (hg : ∀ (s : Shared) (H : Hp) (C : Addr) (cl : List (Str × Addr)) (fp : List Addr), PG (X.blk s H scope (compEnvC scope cl C X.env) fp) tg (gD (gx X) (others X.N.length (own.map (·.2))) put))
    (ht : ∀ (s : Shared) (H : Hp) (C : Addr) (cl : List (Str × Addr)) (fp : List Addr), PTs (X.blk s H scope (compEnvC scope cl C X.env) fp) ifs (tB (gx X) W0 mc))
    (he : ∀ (s : Shared) (H : Hp) (C : Addr) (cl : List (Str × Addr)) (fp : List Addr), PE (X.blk s H scope (compEnvC scope cl C X.env) fp) elt (tZ (gx X) W0 me)) (hs : ∀ x, foldedSetIterable e X.env x = pure x)
    (hput : ∀ d ts ts', put d ts = some ts' → ts'.length = ts.length) : PE X (.ListComp elt [⟨tg, e, ifs, 0⟩] scope pos) (tD (gx X) W (compKT i p (own.map (·.2)) put mc me)) := by
  have base := pe_lc hc hN (pi_keys (tg := tg) ho) ok hg ht he hs (pos := pos)
  refine ⟨fun pins s σ H Q I ⟨F, Mm, G, ts, st, k⟩ => ?_⟩
  have k : KD (gx X) W F G σ Q (compKT i p (own.map (·.2)) put mc me ts) := k
  unfold compKT at k
  cases q : getF i p ts with
  | none => rw [q] at k; exact k.elim
  | some d =>
    rw [q] at k
    cases d with
    | dt ds =>
      dsimp only at k
      cases q2 : compM (fun us => .ok (kysT ds) us) (own.map (·.2)) put mc me ts with
      | bad => rw [q2] at k; exact k.elim
      | ex c t => rw [q2] at k; exact k.elim
      | ok t ts' =>
        rw [q2] at k
        dsimp only at k
        obtain ⟨d0, h0, h1⟩ := getF_at q
        obtain ⟨v0, A, B, _, e1, r, _⟩ := st.slot h0 (fun z => nomatch z)
        cases r with
        | z r =>
          obtain ⟨w, pv, rw'⟩ := r.get st.hc.fh p h1
          cases rw' with
          | @dt a kvs _ hr hk ra =>
            rcases hr with hr | ⟨o, hr⟩
            · refine (pe_lock base).run pins s σ H Q I ⟨a, .dT kvs, st.hc.fh _ _ hr, trivial, fun od => ?_⟩
              have st2 := st.swap (u' := .frz od (.dT kvs)) hr dtL dtF
              refine ⟨v0, .ref a, e1, pv.swap (st.hc.fh _ _ hr) dtL dtF, a, od, rfl, .inr ⟨kvs, upd_same, ?_⟩⟩
              refine comp_coreK (W := W) (mi := fun us => .ok (kysT ds) us) (put := put) (mc := mc) (me := me) (vs := own.map (·.2)) (Q := fun v H' => H' a = some (.frz od (.dT kvs)) ∧ Q v (upd H' a (.dT kvs))) hput I.len st2 ?_ _ Mm _ (Itkt a od kvs) (Same.refl _) st2 (src_keysT upd_same hk)
              rw [q2]
              intro F' Mv M' H' v s2 r2 st3 d3
              have b1 : F' a = some (.frz od (.dT kvs)) := s2 _ _ upd_same
              have b2 : Same F (upd F' a (.dT kvs)) := fun b x e => by
                by_cases z : b = a
                · subst z; rw [hr] at e; rw [upd_same]; exact e
                · rw [upd_ne z]; exact s2 _ _ (by rw [upd_ne z]; exact e)
              exact ⟨st3.hc.fh _ _ b1, k _ Mv M' _ v b2 (r2.swap b1 dtF dtL) (st3.swap b1 dtF dtL) d3⟩
            · refine base.run pins s σ H Q I ⟨v0, .ref a, e1, pv, a, o, rfl, .inr ⟨kvs, st.hc.fh _ _ hr, ?_⟩⟩
              refine comp_coreK (W := W) (mi := fun us => .ok (kysT ds) us) (put := put) (mc := mc) (me := me) (vs := own.map (·.2)) (Q := Q) hput I.len st ?_ _ Mm _ (Itkt a o kvs) (Same.refl _) st (src_keysT hr hk)
              rw [q2]
              exact k
    | _ => exact k.elim
theorem ps_setCompKT {bs : List Nat} {j : Nat} {y : Str} {py spos : Pos} {elt : Expr} {ifs : List Expr} {scope : Scope} {own : List (Str × Nat)} {mc : M Bool} {me : M D}
    (hc : X.calm = true) (hN : X.N.Nodup) (hy : X.N[j]? = some y) (hyl : X.env.scope.names.lookup y = some .local)
    (hsw : swapsWith (.ListComp elt [⟨tg, e, ifs, 0⟩] scope pos) (some (.Name y py)) spos.line X.env = pure true) (ho : PE X e (tPth (gx X) i p)) (ok : BlkOk X.N X.env.scope scope own)
    (hg : ∀ (s : Shared) (H : Hp) (C : Addr) (cl : List (Str × Addr)) (fp : List Addr), PG (X.blk s H scope (compEnvC scope cl C X.env) fp) tg (gD (gx X) (others X.N.length (own.map (·.2))) put))
    (ht : ∀ (s : Shared) (H : Hp) (C : Addr) (cl : List (Str × Addr)) (fp : List Addr), PTs (X.blk s H scope (compEnvC scope cl C X.env) fp) ifs (tB (gx X) W0 mc))
    (he : ∀ (s : Shared) (H : Hp) (C : Addr) (cl : List (Str × Addr)) (fp : List Addr), PE (X.blk s H scope (compEnvC scope cl C X.env) fp) elt (tZ (gx X) W0 me)) (hs : ∀ x, foldedSetIterable e X.env x = pure x)
    (hput : ∀ d ts ts', put d ts = some ts' → ts'.length = ts.length) (hb : j ∉ bs) : PS X (.Assign [.Name y py] (.ListComp elt [⟨tg, e, ifs, 0⟩] scope pos) spos) (tS (gx X) W bs (setS j (compKT i p (own.map (·.2)) put mc me))) := by
  have base := ps_setLc hc hN hy hyl hsw (pi_keys (tg := tg) ho) ok hg ht he hs (spos := spos)
  refine ⟨fun pins s σ H D I ⟨F, Mm, G, ts, st, k⟩ => ?_⟩
  have k : KS (gx X) W bs F G σ D (setS j (compKT i p (own.map (·.2)) put mc me) ts) := k
  unfold setS bindS compKT at k
  dsimp only at k
  cases q : getF i p ts with
  | none => rw [q] at k; exact k.elim
  | some d =>
    rw [q] at k
    cases d with
    | dt ds =>
      dsimp only at k
      cases q2 : compM (fun us => .ok (kysT ds) us) (own.map (·.2)) put mc me ts with
      | bad => rw [q2] at k; exact k.elim
      | ex c t => rw [q2] at k; exact k.elim
      | ok t ts' =>
        rw [q2] at k
        dsimp only at k
        by_cases hl : j < ts'.length
        · rw [if_pos hl] at k
          have k : ∀ F' M' H' σ', Same F F' → Sta (gx X) F' M' G H' σ' (ts'.set j t) → Pin bs σ σ' → D.nx σ' H' := k
          obtain ⟨d0, h0, h1⟩ := getF_at q
          obtain ⟨v0, A, B, _, e1, r, _⟩ := st.slot h0 (fun z => nomatch z)
          cases r with
          | z r =>
            obtain ⟨w, pv, rw'⟩ := r.get st.hc.fh p h1
            cases rw' with
            | @dt a kvs _ hr hk ra =>
              rcases hr with hr | ⟨o, hr⟩
              · refine (ps_lock base).run pins s σ H D I ⟨a, .dT kvs, st.hc.fh _ _ hr, trivial, fun od => ?_⟩
                have st2 := st.swap (u' := .frz od (.dT kvs)) hr dtL dtF
                refine ⟨v0, .ref a, e1, pv.swap (st.hc.fh _ _ hr) dtL dtF, a, od, rfl, .inr ⟨kvs, upd_same, ?_⟩⟩
                refine comp_coreK (W := W) (mi := fun us => .ok (kysT ds) us) (put := put) (mc := mc) (me := me) (vs := own.map (·.2)) (Q := fun x H1 => gName j x σ H1 (fun σ' H' => H' a = some (.frz od (.dT kvs)) ∧ D.nx σ' (upd H' a (.dT kvs)))) hput I.len st2 ?_ _ Mm _ (Itkt a od kvs) (Same.refl _) st2 (src_keysT upd_same hk)
                rw [q2]
                intro F' Mv M' H' v s2 r2 st3 d3
                have b1 : F' a = some (.frz od (.dT kvs)) := s2 _ _ upd_same
                have b2 : Same F (upd F' a (.dT kvs)) := fun b x e => by
                  by_cases z : b = a
                  · subst z; rw [hr] at e; rw [upd_same]; exact e
                  · rw [upd_ne z]; exact s2 _ _ (by rw [upd_ne z]; exact e)
                obtain ⟨M5, st5⟩ := (st3.swap b1 dtF dtL).assign (r2.swap b1 dtF dtL) d3 hl
                exact ⟨st3.hc.fh _ _ b1, k _ M5 _ _ b2 st5 (Pin.set hb)⟩
              · refine base.run pins s σ H D I ⟨v0, .ref a, e1, pv, a, o, rfl, .inr ⟨kvs, st.hc.fh _ _ hr, ?_⟩⟩
                refine comp_coreK (W := W) (mi := fun us => .ok (kysT ds) us) (put := put) (mc := mc) (me := me) (vs := own.map (·.2)) (Q := fun x H1 => gName j x σ H1 D.nx) hput I.len st ?_ _ Mm _ (Itkt a o kvs) (Same.refl _) st (src_keysT hr hk)
                rw [q2]
                intro F' Mv M' H' v s2 r2 st3 d3
                obtain ⟨M5, st5⟩ := st3.assign r2 d3 hl
                exact k _ M5 _ _ s2 st5 (Pin.set hb)
        · rw [if_neg hl] at k; exact k.elim
    | _ => exact k.elim
end
/-! running -/
theorem getF_0 {i : Nat} {ts : List T} {d : D} (h : ts[i]? = some (.z d)) : getF i [] ts = some d := by
  unfold getF
  rw [h]
  exact dget_nil d
theorem compKT_run {i : Nat} {vs : List Nat} {put : D → List T → Option (List T)} {mc : M Bool} {me : M D} {ts ts' : List T} {ds : List (List Key × D)} {l : List D} (h : ts[i]? = some (.z (.dt ds)))
    (e : compR vs put mc me (kysT ds) ts = .ok l ts') (hl : l.length ≤ lim) : compKT i [] vs put mc me ts = .ok (.l (l.map .z)) ts' := by
  unfold compKT
  rw [getF_0 h]
  have : compM (fun us => .ok (kysT ds) us) vs put mc me ts = .ok (.l (l.map .z)) ts' := by
    rw [compM_ap]
    simp [e, hl]
  dsimp only
  rw [this]
end Ar
/-! ArPo: a loop where a name holds the last thing of an owned list (p the list's slot, b the name's). -/
namespace Ar
open PySem PySem.Spec PyProof.Rows L2
def Tie (p b : Nat) (H : Hp) (σ : L2.St) : Prop := ∃ a xs v, σ[p]? = some (some (.ref a)) ∧ H a = some (.lst xs) ∧ xs.getLast? = some v ∧ σ[b]? = some (some v)
def TieO (p b : Nat) (H : Hp) (σ : L2.St) (ts : List T) : Prop := ts[b]? = some .gone → Tie p b H σ
def KST (p b : Nat) (g : Gx) (W : WX) (bs : List Nat) (F G : Hp) (σ : L2.St) (D : Ends) (r : RS) : Prop := match r with
  | .bad => False
  | .nx ts' => ∀ F' M' H' σ', Same F F' → Sta g F' M' G H' σ' ts' → TieO p b H' σ' ts' → Pin bs σ σ' → D.nx σ' H'
  | .bk ts' => ∀ F' M' H' σ', Same F F' → Sta g F' M' G H' σ' ts' → TieO p b H' σ' ts' → Pin bs σ σ' → D.bk σ' H'
  | .ct ts' => ∀ F' M' H' σ', Same F F' → Sta g F' M' G H' σ' ts' → TieO p b H' σ' ts' → Pin bs σ σ' → D.ct σ' H'
  | .rt t ts' => ∀ F' Mv M' H' σ' v, Same F F' → RO g F' Mv v t → Sta g F' M' (jn Mv G) H' σ' ts' → Dj Mv G → Pin bs σ σ' → D.rt v H'
  | .ex c ts' => ∀ F' M' H' σ' C, Same F F' → Sta g F' M' G H' σ' ts' → Pin bs σ σ' → g.mg c = some (.ref C) → W (.ref C) none σ' H'
def tST (p b : Nat) (g : Gx) (W : WX) (bs : List Nat) (m : S) : TS := fun D σ H => ∃ F Mm G ts, Sta g F Mm G H σ ts ∧ TieO p b H σ ts ∧ KST p b g W bs F G σ D (m ts)
def tBT (p b : Nat) (g : Gx) (W : WX) (m : M Bool) : TT := fun σ H Q => ∃ F Mm G ts, Sta g F Mm G H σ ts ∧ TieO p b H σ ts ∧ match m ts with
  | .bad => False
  | .ok x ts' => ∀ F' M' H', Same F F' → Sta g F' M' G H' σ ts' → TieO p b H' σ ts' → Q x H'
  | .ex c ts' => ∀ F' M' H' C, Same F F' → Sta g F' M' G H' σ ts' → g.mg c = some (.ref C) → W (.ref C) none σ H'
theorem KST.mono {p b : Nat} {g : Gx} {W : WX} {bs : List Nat} {F F1 G : Hp} {σ σ1 : L2.St} {D : Ends} {r : RS} (h : KST p b g W bs F G σ D r) (s : Same F F1) (q : Pin bs σ σ1) : KST p b g W bs F1 G σ1 D r := by
  cases r with
  | bad => exact h
  | nx ts => exact fun F' M' H' σ' s1 st t q1 => h F' M' H' σ' (s.trans s1) st t (q.trans q1)
  | bk ts => exact fun F' M' H' σ' s1 st t q1 => h F' M' H' σ' (s.trans s1) st t (q.trans q1)
  | ct ts => exact fun F' M' H' σ' s1 st t q1 => h F' M' H' σ' (s.trans s1) st t (q.trans q1)
  | rt t ts => exact fun F' Mv M' H' σ' v s1 r st d q1 => h F' Mv M' H' σ' v (s.trans s1) r st d (q.trans q1)
  | ex c ts => exact fun F' M' H' σ' C s1 st q1 => h F' M' H' σ' C (s.trans s1) st (q.trans q1)
/-- what may stand in the name's slot while others are at work -/
@[simp] def zg : Option T → Bool
  | some (.z _) => true
  | some .gone => true
  | _ => false
@[simp] def held2 (p b : Nat) (ts : List T) : List T := (ts.set p .gone).set b .gone
@[simp] def back2 (p b : Nat) (ts ts1 : List T) : List T := (ts1.set b (ts[b]?.getD .gone)).set p (ts[p]?.getD .gone)
/-- a statement that has nothing to do with the two -/
def frmS (p b : Nat) (m : S) : S := fun ts => if isL p ts = true ∧ zg ts[b]? = true then (match m (held2 p b ts) with
  | .nx ts1 => .nx (back2 p b ts ts1)
  | .ex c ts1 => .ex c ts1
  | _ => .bad) else .bad
def frmB (p b : Nat) (m : M Bool) : M Bool := fun ts => if isL p ts = true ∧ zg ts[b]? = true then (match m (held2 p b ts) with
  | .ok x ts1 => .ok x (back2 p b ts ts1)
  | .ex c ts1 => .ex c ts1
  | _ => .bad) else .bad
section
variable {g : Gx} {F Mm G H : Hp} {σ : L2.St} {ts : List T} {p b : Nat}
theorem set_self {α : Type} {l : List (Option α)} {i : Nat} {v : Option α} (e : l[i]? = some v) : l.set i v = l := by
  refine List.ext_getElem? fun k => ?_
  by_cases q : i = k
  · subst q
    have hl : i < l.length := (List.getElem?_eq_some_iff.mp e).1
    rw [List.getElem?_set_self hl, e]
  · rw [List.getElem?_set_ne q]
theorem Sta.goneAt (i : Nat) (st : Sta g F Mm G H σ ts) : Sta g F Mm G H σ (ts.set i .gone) := by
  cases e : σ[i]? with
  | none =>
    have : ts[i]? = none := by
      rw [List.getElem?_eq_none_iff] at e ⊢
      rw [← st.len]; exact e
    rw [List.set_eq_of_length_le (List.getElem?_eq_none_iff.mp this)]; exact st
  | some v =>
    have h := st.gone (i := i) (v := v)
    rw [set_self e] at h
    exact h
theorem Tie.move {F' M' G' H' : Hp} {σ' : L2.St} (st : Sta g F Mm G H σ ts) (hp : isL p ts = true) (hm : Same Mm H') (h1 : σ'[p]? = σ[p]?) (h2 : σ'[b]? = σ[b]?) (t : Tie p b H σ) : Tie p b H' σ' := by
  obtain ⟨xs0, e0⟩ := isL_eq hp
  obtain ⟨v, M1, M2, vs, e1, r, s1, _⟩ := st.slot e0 (fun z => nomatch z)
  obtain ⟨a, xs, v', q1, q2, q3, q4⟩ := t
  rw [e1] at q1
  cases q1
  cases r with
  | l k1 k2 k3 k4 =>
    have : H a = some (.lst _) := st.hc.mh _ _ (s1 _ _ k1)
    rw [this] at q2
    cases q2
    exact ⟨a, _, v', h1.trans e1, hm _ _ (s1 _ _ k1), q3, h2.trans q4⟩
/-- both held aside, and how they are put back -/
theorem Sta.hold2 (hpb : p ≠ b) (st : Sta g F Mm G H σ ts) (tie : TieO p b H σ ts) (hp : isL p ts = true) (hb : zg ts[b]? = true) :
    ∃ A B, Sta g F B (jn A G) H σ (held2 p b ts) ∧ Dj A G ∧ ∀ F' M' H' σ' ts1, Same F F' → Sta g F' M' (jn A G) H' σ' ts1 → σ'[p]? = σ[p]? → σ'[b]? = σ[b]? →
      (∃ M2, Sta g F' M2 G H' σ' (back2 p b ts ts1)) ∧ TieO p b H' σ' (back2 p b ts ts1) := by
  obtain ⟨xs0, e0⟩ := isL_eq hp
  obtain ⟨v, A, B, e1, r, st1, d⟩ := st.take e0 (fun z => nomatch z)
  refine ⟨A, B, st1.goneAt b, d, fun F' M' H' σ' ts1 s st' h1 h2 => ?_⟩
  have lp : p < ts1.length := by
    rw [← st'.len]
    exact (List.getElem?_eq_some_iff.mp (h1.trans e1)).1
  have hA : Same A H' := jn_l.trans st'.hc.gh
  have ep : ts[p]?.getD .gone = .l xs0 := by rw [e0]; rfl
  have fin : ∀ ts2, ts2.length = ts1.length → (∃ M2, Sta g F' M2 (jn A G) H' σ' ts2) → ∃ M2, Sta g F' M2 G H' σ' (ts2.set p (.l xs0)) := fun ts2 hl ⟨M2, st2⟩ =>
    st2.backIn (r.mono s) d (h1.trans e1) (by rw [hl]; exact lp)
  unfold back2
  rw [ep]
  refine ⟨fin _ (List.length_set ..) ?_, fun hg => ?_⟩
  · cases eb : ts[b]? with
    | none => rw [eb] at hb; cases hb
    | some t =>
      rw [eb] at hb
      cases t with
      | z db =>
        obtain ⟨vb, M1, M2, vs, eb1, rb, _⟩ := st.slot eb (fun z => nomatch z)
        have lb : b < ts1.length := by
          rw [← st'.len]
          exact (List.getElem?_eq_some_iff.mp (h2.trans eb1)).1
        cases rb with
        | z rb =>
          obtain ⟨M3, st3⟩ := st'.assignZ (rb.mono s) lb
          rw [set_self (h2.trans eb1)] at st3
          exact ⟨M3, st3⟩
      | gone => exact ⟨M', st'.goneAt b⟩
      | _ => cases hb
  · have e9 : ts[b]? = some .gone := by
      rw [List.getElem?_set_ne hpb] at hg
      have lb : b < ts1.length := by
        rcases Nat.lt_or_ge b ts1.length with q | q
        · exact q
        · rw [List.getElem?_eq_none_iff.mpr (by rw [List.length_set]; exact q)] at hg; cases hg
      rw [List.getElem?_set_self lb] at hg
      cases eb : ts[b]? with
      | none => rw [eb] at hb; cases hb
      | some t => rw [eb] at hg; exact congrArg some (Option.some.inj hg)
    obtain ⟨a, xs, v', q1, q2, q3, q4⟩ := tie e9
    rw [e1] at q1
    cases q1
    cases r with
    | l k1 k2 k3 k4 =>
      have : H a = some (.lst _) := (jn_l.trans st1.hc.gh) _ _ k1
      rw [this] at q2
      cases q2
      exact ⟨a, _, v', h1.trans e1, hA _ _ k1, q3, h2.trans q4⟩
end
section
variable {X : Cx} {W : WX} {bs bs' : List Nat} {p b : Nat}
theorem ps_frm {s : Stmt} {m : S} (hpb : p ≠ b) (h : PS X s (tS (gx X) W bs' m)) (h0 : ∀ k ∈ bs, k ∈ bs') (h1 : p ∈ bs') (h2 : b ∈ bs') : PS X s (tST p b (gx X) W bs (frmS p b m)) :=
  ps_imp h fun D σ H ⟨F, Mm, G, ts, st, tie, k⟩ => by
    unfold frmS at k
    by_cases hc : isL p ts = true ∧ zg ts[b]? = true
    · rw [if_pos hc] at k
      obtain ⟨A, B, st1, d, fin⟩ := st.hold2 hpb tie hc.1 hc.2
      refine ⟨F, B, jn A G, _, st1, ?_⟩
      have pn : ∀ {σ'}, Pin bs' σ σ' → Pin bs σ σ' := fun q i hi => q i (h0 i hi)
      cases q : m (held2 p b ts) with
      | nx ts1 =>
        rw [q] at k
        intro F' M' H' σ' s1 st' pin
        obtain ⟨⟨M2, st2⟩, t2⟩ := fin F' M' H' σ' ts1 s1 st' (pin p h1) (pin b h2)
        exact k F' M2 H' σ' s1 st2 t2 (pn pin)
      | ex c ts1 =>
        rw [q] at k
        intro F' M' H' σ' C s1 st' pin hC
        exact k F' M' H' σ' C s1 (st'.drop d) (pn pin) hC
      | bad => rw [q] at k; exact k.elim
      | rt t ts1 => rw [q] at k; exact k.elim
      | bk ts1 => rw [q] at k; exact k.elim
      | ct ts1 => rw [q] at k; exact k.elim
    · rw [if_neg hc] at k; exact k.elim
theorem pt_frm {e : Expr} {m : M Bool} (hpb : p ≠ b) (h : PT X e (tB (gx X) W m)) : PT X e (tBT p b (gx X) W (frmB p b m)) :=
  pt_imp h fun σ H Q ⟨F, Mm, G, ts, st, tie, k⟩ => by
    unfold frmB at k
    by_cases hc : isL p ts = true ∧ zg ts[b]? = true
    · rw [if_pos hc] at k
      obtain ⟨A, B, st1, d, fin⟩ := st.hold2 hpb tie hc.1 hc.2
      refine ⟨F, B, jn A G, _, st1, ?_⟩
      cases q : m (held2 p b ts) with
      | ok x ts1 =>
        rw [q] at k
        intro F' M' H' s1 st'
        obtain ⟨⟨M2, st2⟩, t2⟩ := fin F' M' H' σ ts1 s1 st' rfl rfl
        exact k F' M2 H' s1 st2 t2
      | ex c ts1 =>
        rw [q] at k
        intro F' M' H' C s1 st' hC
        exact k F' M' H' C s1 (st'.drop d) hC
      | bad => rw [q] at k; exact k.elim
    · rw [if_neg hc] at k; exact k.elim
end
/-! ### the name is stored anew, of what it held -/
def lastD (p : Nat) (ts : List T) : Option D := match ts[p]? with
  | some (.l tl) => (match tl.getLast? with | some t => t.fz | none => none)
  | _ => none
@[simp] def isG : Option T → Bool
  | some .gone => true
  | _ => false
def visT (p b : Nat) (ts : List T) : Option (List T) := if isG ts[b]? = true then (lastD p ts).map fun d => (ts.map frzT).set b (.z d) else some (ts.map frzT)
@[simp] def notG : T → Bool
  | .gone => false
  | _ => true
def tieSet (p b : Nat) (m : M T) : S := fun ts => match visT p b ts with
  | some ts3 => (match m ts3 with
    | .ok t _ => if t.fresh = true ∧ notG t = true ∧ b < ts.length then .nx (ts.set b t) else .bad
    | .ex c _ => .ex c ts
    | .bad => .bad)
  | none => .bad
theorem Sta.vis {g : Gx} {F M0 G H : Hp} {σ : L2.St} {ts ts3 : List T} {p b : Nat} (st : Sta g F M0 G H σ ts) (tie : TieO p b H σ ts) (e : visT p b ts = some ts3) : Sta g (jn F M0) em G H σ ts3 ∨ ∃ M', Sta g (jn F M0) M' G H σ ts3 := by
  obtain ⟨s0, st0⟩ := st.frzAll
  unfold visT at e
  by_cases c : isG ts[b]? = true
  · rw [if_pos c] at e
    have eb : ts[b]? = some .gone := by
      unfold isG at c
      split at c
      · assumption
      · cases c
    obtain ⟨a, xs, v, q1, q2, q3, q4⟩ := tie eb
    unfold lastD at e
    split at e
    · rename_i tl ep
      obtain ⟨v', M1, M2, vs, e1, r, s1, _⟩ := st.slot ep (fun z => nomatch z)
      rw [e1] at q1
      cases q1
      cases r with
      | @l _ Mc _ ws _ k1 k2 k3 k4 =>
        have : H a = some (.lst _) := st.hc.mh _ _ (s1 _ _ k1)
        rw [this] at q2
        cases q2
        cases el : tl.getLast? with
        | none => rw [el] at e; cases e
        | some t =>
          rw [el] at e
          dsimp only at e
          cases ef : t.fz with
          | none => rw [ef] at e; cases e
          | some d =>
            rw [ef] at e
            cases e
            rw [List.getLast?_eq_getElem?] at el q3
            obtain ⟨w, A, B, ew, ra, sa, _⟩ := k4.pick el
            rw [k4.length, ew] at q3
            cases q3
            have rz : Rp g (jn F M0) v d := ra.fz ef s0 (((sa.trans k2).trans s1).trans (jn_r st.hc.fm))
            have lb : b < (ts.map frzT).length := by
              rw [List.length_map]
              exact (List.getElem?_eq_some_iff.mp eb).1
            obtain ⟨M3, st3⟩ := st0.assignZ rz lb
            rw [set_self q4] at st3
            exact .inr ⟨M3, st3⟩
    · cases e
  · rw [if_neg c] at e
    cases e
    exact .inl st0
section
variable {X : Cx} {W : WX} {bs : List Nat} {p b : Nat} {e : Expr} {pos pos' : Pos}
theorem ps_tieSet {x : Str} {m : M T} (h : PE X e (tD (gx X) W m)) (hN : X.N.Nodup) (hi : X.N[b]? = some x) (hx : Loc X.env.scope x) (hs : swapsWith e (some (.Name x pos')) pos.line X.env = pure false) (hf : X.fn x = true ∨ X.env.scope.names.lookup x = some .local) (hb : b ∉ bs) :
    PS X (.Assign [.Name x pos'] e pos) (tST p b (gx X) W bs (tieSet p b m)) :=
  ps_imp (ps_set hN hi hx h hs hf) fun D σ H ⟨F, Mm, G, ts, st, tie, k⟩ => by
    obtain ⟨M0, c0, st⟩ := st.shrink
    unfold tieSet at k
    cases q : visT p b ts with
    | none => rw [q] at k; exact k.elim
    | some ts3 =>
      rw [q] at k
      dsimp only at k
      obtain ⟨M3, st3⟩ : ∃ M', Sta (gx X) (jn F M0) M' G H σ ts3 := (st.vis tie q).elim (fun h => ⟨_, h⟩) id
      refine ⟨jn F M0, M3, G, ts3, st3, ?_⟩
      cases q2 : m ts3 with
      | bad => rw [q2] at k; exact k.elim
      | ex c ts' =>
        rw [q2] at k
        intro F' M' H' C s1 st1 hC
        exact k _ M0 H' σ C (st.back s1 st1).1 (st.back s1 st1).2 Pin.refl hC
      | ok t ts' =>
        rw [q2] at k
        dsimp only at k
        intro F' Mv M' H' v s1 r st1 d
        by_cases hc : t.fresh = true ∧ notG t = true ∧ b < ts.length
        · rw [if_pos hc] at k
          obtain ⟨s2, st2⟩ := st.backO s1 st1 d
          have r2 := r.fresh c0 ((jn_r st.hc.fm).trans s1) hc.1
          obtain ⟨M4, st4⟩ := st2.assign r2 d hc.2.2
          refine k _ M4 H' _ s2 st4 (fun hg => ?_) (Pin.set hb)
          rw [List.getElem?_set_self hc.2.2] at hg
          cases hg
          exact nomatch hc.2.1
        · rw [if_neg hc] at k; exact k.elim
end
/-! ### .. and put behind the list -/
def tieApp (p b : Nat) : S := fun ts => match ts[p]?, ts[b]? with
  | some (.l tl), some t => if tl.length < lim ∧ notG t = true then .nx ((ts.set b .gone).set p (.l (tl ++ [t]))) else .bad
  | _, _ => .bad
section
variable {X : Cx} {W : WX} {bs : List Nat} {p b : Nat} {x y : Str} {pp py apos cpos pos : Pos}
theorem ps_tieApp (hpb : p ≠ b) (hN : X.N[p]? = some x) (hv : Vis X.env.scope x) (hd : (x == ("__debug__" : Str)) = false) (hcd : (x == ("__classdict__" : Str)) = false)
    (hN2 : X.N[b]? = some y) (hv2 : Vis X.env.scope y) (hd2 : (y == ("__debug__" : Str)) = false) (hcd2 : (y == ("__classdict__" : Str)) = false) (hl : (apos.endLine == cpos.line) = true)
    (hs : swapsWith (.Call (.Attribute (.Name x pp) "append" apos) [.Name y py] [] cpos) none pos.line X.env = pure false) :
    PS X (.Expr (.Call (.Attribute (.Name x pp) "append" apos) [.Name y py] [] cpos) pos) (tST p b (gx X) W bs (tieApp p b)) :=
  ps_imp (ps_expr (pe_bm PySem.F.plainAttrs_list PySem.F.slot_list_append PySem.F.type_list_append mt_append (pe_var hN hv hd hcd) (pa_cons (pe_var hN2 hv2 hd2 hcd2) pa_nil (star_of rfl _ _)) rfl (few1 rfl _ _) hl (star_of rfl _ _) rfl) hs) fun D σ H ⟨F, Mm, G, ts, st, tie, k⟩ => by
    unfold tieApp at k
    split at k
    · rename_i tl t ep eb
      by_cases hc : tl.length < lim ∧ notG t = true
      · rw [if_pos hc] at k
        have ng : t ≠ .gone := fun z => by subst z; exact nomatch hc.2
        obtain ⟨vb, A, B, e1, rb, st1, dA⟩ := st.take eb ng
        obtain ⟨a, ws, Mc, e2, hH, rs, dc, fin⟩ := st1.lst dA (i := p) (xs := tl) (by rw [List.getElem?_set_ne hpb.symm]; exact ep)
        obtain ⟨M', st2, dj2⟩ := fin (ws ++ [vb]) (tl ++ [t]) (jn Mc A) em (rs.append (.cons (M1 := A) (M2 := em) rb .nil (Same.refl _) Same.empty Dj.em_r) dc jn_l (jn_r dc)) (Same.refl _) Same.empty Dj.em_r
        refine ⟨.ref a, e2, tyL (g := gx X) hH, vb, e1, a, ws, vb, rfl, rfl, hH, by rw [rs.length]; exact lim_lt' hc.1, ?_⟩
        exact k F M' _ σ (Same.refl _) st2 (fun _ => ⟨a, ws ++ [vb], vb, e2, upd_same, by simp, e1⟩) Pin.refl
      · rw [if_neg hc] at k; exact k.elim
    · exact k.elim
theorem pss_nilT : PSs X [] (tST p b (gx X) W bs RS.nx) := pss_imp pss_nil fun D σ H ⟨F, Mm, G, ts, sa, t, k⟩ => k F Mm H σ (Same.refl _) sa t Pin.refl
theorem pss_consT {st : Stmt} {rest : List Stmt} {m n : S} (h1 : PS X st (tST p b (gx X) W bs m)) (h2 : PSs X rest (tST p b (gx X) W bs n)) : PSs X (st :: rest) (tST p b (gx X) W bs (sq m n)) :=
  pss_imp (pss_cons h1 h2) fun D σ H ⟨F, Mm, G, ts, sa, t, k⟩ => by
    refine ⟨F, Mm, G, ts, sa, t, ?_⟩
    unfold sq at k
    cases e : m ts with
    | nx ts' =>
      rw [e] at k
      exact fun F' M' H' σ' s st' t' q => ⟨F', M', G, ts', st', t', KST.mono k s q⟩
    | bad => rw [e] at k; exact k
    | bk ts' => rw [e] at k; exact k
    | ct ts' => rw [e] at k; exact k
    | rt t ts' => rw [e] at k; exact k
    | ex c ts' => rw [e] at k; exact k
/-- the loop -/
noncomputable def whileT (b : Nat) (c : M Bool) (body : S) : S := fun ts => if isG ts[b]? = true then .bad else whileS c body ts
theorem ps_whileT {c : Expr} {body : List Stmt} {mc : M Bool} {n : S} (hp : PassesOwn (model X.prog X.w) X.A X.env X.xe) (hc : PT X c (tBT p b (gx X) W mc)) (hb : PSs X body (tST p b (gx X) W bs n)) : PS X (.While c body [] pos) (tS (gx X) W bs (whileT b mc n)) :=
  ps_imp (ps_while hp hc hb) fun D σ H ⟨F, Mm, G, ts, st, k⟩ => by
    unfold whileT at k
    by_cases hg : isG ts[b]? = true
    · rw [if_pos hg] at k; exact k.elim
    rw [if_neg hg] at k
    have tie0 : TieO p b H σ ts := fun z => by rw [z] at hg; exact absurd rfl hg
    unfold whileS at k
    split at k
    · rename_i ex
      generalize Classical.choose ex = m0 at k
      refine ⟨fun m σ' H' => ∃ F' M' ts', Same F F' ∧ Sta (gx X) F' M' G H' σ' ts' ∧ TieO p b H' σ' ts' ∧ Pin bs σ σ' ∧ KS (gx X) W bs F' G σ' D (whileN mc n m ts'), ⟨m0, F, Mm, ts, Same.refl _, st, tie0, Pin.refl, k⟩, ?_⟩
      rintro m σ' H' ⟨F1, M1, ts1, s1, st1, t1, p1, k1⟩
      cases m with
      | zero => exact k1.elim
      | succ m =>
        rw [whileN] at k1
        dsimp only at k1
        refine ⟨F1, M1, G, ts1, st1, t1, ?_⟩
        cases q : mc ts1 with
        | bad => rw [q] at k1; exact k1
        | ex e ts' => rw [q] at k1; exact k1.kx
        | ok b1 ts2 =>
          rw [q] at k1
          intro F2 M2 H2 s2 st2 t2
          cases b1 with
          | false => exact k1 F2 M2 H2 σ' s2 st2 Pin.refl
          | true =>
            simp only [if_pos] at k1 ⊢
            refine ⟨fun σ3 H3 => ∃ F' M' ts', Same F F' ∧ Sta (gx X) F' M' G H3 σ3 ts' ∧ TieO p b H3 σ3 ts' ∧ Pin bs σ σ3 ∧ KS (gx X) W bs F' G σ3 D (whileN mc n m ts'), ?_, F2, M2, G, ts2, st2, t2, ?_⟩
            · rintro σ3 H3 q3
              exact ⟨m, Nat.lt_succ_self m, q3⟩
            · cases q3 : n ts2 with
              | bad => rw [q3] at k1; exact k1
              | nx ts5 =>
                rw [q3] at k1
                exact fun F5 M5 H5 σ5 s5 st5 t5 p5 => ⟨F5, M5, ts5, (s1.trans s2).trans s5, st5, t5, p1.trans p5, KS.mono k1 (s2.trans s5) p5⟩
              | ct ts5 =>
                rw [q3] at k1
                exact fun F5 M5 H5 σ5 s5 st5 t5 p5 => ⟨F5, M5, ts5, (s1.trans s2).trans s5, st5, t5, p1.trans p5, KS.mono k1 (s2.trans s5) p5⟩
              | bk ts5 =>
                rw [q3] at k1
                exact fun F5 M5 H5 σ5 s5 st5 t5 p5 => k1 F5 M5 H5 σ5 (s2.trans s5) st5 p5
              | rt t ts5 =>
                rw [q3] at k1
                exact fun F5 Mv M5 H5 σ5 v s5 r st5 d p5 => k1 F5 Mv M5 H5 σ5 v (s2.trans s5) r st5 d p5
              | ex c ts5 =>
                rw [q3] at k1
                exact fun F5 M5 H5 σ5 C s5 st5 p5 => k1 F5 M5 H5 σ5 C (s2.trans s5) st5 p5
    · exact k.elim
end
/-! ### run -/
@[simp] theorem tieApp_ap (p b ts) : tieApp p b ts = match ts[p]?, ts[b]? with
  | some (.l tl), some t => if tl.length < lim ∧ notG t = true then .nx ((ts.set b .gone).set p (.l (tl ++ [t]))) else .bad
  | _, _ => .bad := rfl
@[simp] theorem frmS_ap (p b m ts) : frmS p b m ts = if isL p ts = true ∧ zg ts[b]? = true then (match m (held2 p b ts) with
  | .nx ts1 => .nx (back2 p b ts ts1)
  | .ex c ts1 => .ex c ts1
  | _ => .bad) else .bad := rfl
@[simp] theorem frmB_ap (p b m ts) : frmB p b m ts = if isL p ts = true ∧ zg ts[b]? = true then (match m (held2 p b ts) with
  | .ok x ts1 => .ok x (back2 p b ts ts1)
  | .ex c ts1 => .ex c ts1
  | _ => .bad) else .bad := rfl
@[simp] theorem tieSet_ap (p b m ts) : tieSet p b m ts = match visT p b ts with
  | some ts3 => (match m ts3 with
    | .ok t _ => if t.fresh = true ∧ notG t = true ∧ b < ts.length then .nx (ts.set b t) else .bad
    | .ex c _ => .ex c ts
    | .bad => .bad)
  | none => .bad := rfl
@[simp] theorem whileT_ap (b c body ts) : whileT b c body ts = if isG ts[b]? = true then .bad else whileS c body ts := rfl
end Ar
namespace Ar
open PySem PySem.Spec PyProof.Rows L2
def topS (i : Nat) : Stmt := PySem.Challenge.pw_argosy_k36_whole_plans_carry_and_none_is.main.body.getD i (.Pass ⟨0, 0, 0, 0⟩)
structure Tx (K : PySem.W.Frag) (mg : Str → Option Value) : Prop where
  d_is_number : DefIs K mg "is_number" (topS 6) ["thing"]
  d_between : DefIs K mg "between" (topS 7) ["thing", "low", "high"]
  d_is_slip : DefIs K mg "is_slip" (topS 8) ["thing"]
  d_rising : DefIs K mg "rising" (topS 9) ["timbers"]
  d_common : DefIs K mg "common" (topS 10) ["one", "other"]
  d_apart : DefIs K mg "apart" (topS 11) ["one", "other"]
  d_alike : DefIs K mg "alike" (topS 13) ["one", "other", "both"]
  d_near : DefIs K mg "near" (topS 15) ["one", "other"]
  d_held : DefIs K mg "held" (topS 16) ["start", "goal", "slip"]
  d_stages_of : DefIs K mg "stages_of" (topS 17) ["kinds", "slip"]
  d_ends_of : DefIs K mg "ends_of" (topS 18) ["kinds"]
  d_heights_of : DefIs K mg "heights_of" (topS 19) ["kinds", "slip"]
  d_heights : DefIs K mg "heights" (topS 20) ["start", "goal", "slip"]
  d_fewest : DefIs K mg "fewest" (topS 21) ["start", "goal", "slip"]
  d_refitted : DefIs K mg "refitted" (topS 22) ["boat", "kinds", "stage"]
  d_carried : DefIs K mg "carried" (topS 23) ["start", "goal", "slip"]
  d_law_begin : DefIs K mg "_law_begin" (topS 25) ["_law_script"]
  d_law_take : DefIs K mg "_law_take" (topS 26) ["_law_draw", "_law_many"]
  d_law_same : DefIs K mg "_law_same" (topS 27) ["_law_found", "_law_due"]
  d_law_set : DefIs K mg "_law_set" (topS 28) ["_law_timbers"]
  d_law_like : DefIs K mg "_law_like" (topS 29) ["_law_one", "_law_other"]
  d_law_some : DefIs K mg "_law_some" (topS 30) ["_law_draw", "_law_pool", "_law_many"]
  d_law_slip : DefIs K mg "_law_slip" (topS 31) ["_law_draw"]
  d_law_ends : DefIs K mg "_law_ends" (topS 32) ["_law_draw", "_law_slip_here"]
  d_law_kinds : DefIs K mg "_law_kinds" (topS 33) ["_law_start", "_law_goal"]
  d_law_stages : DefIs K mg "_law_stages" (topS 34) ["_law_sorts", "_law_slip_here"]
  d_law_near : DefIs K mg "_law_near" (topS 35) ["_law_one", "_law_other"]
  d_law_level : DefIs K mg "_law_level" (topS 36) ["_law_one", "_law_other"]
  d_law_good_table : DefIs K mg "_law_good_table" (topS 37) ["_law_sorts", "_law_slip_here", "_law_table"]
  d_law_walks : DefIs K mg "_law_walks" (topS 38) ["_law_start", "_law_goal", "_law_slip_here", "_law_plan"]
  d_law : DefIs K mg "law" (topS 39) ["_law_script"]
  z_isinstance : mg "isinstance" = none
  z_bool : mg "bool" = none
  z_int : mg "int" = none
  z_set : mg "set" = none
  z_sorted : mg "sorted" = none
  z_sum : mg "sum" = none
  z_range : mg "range" = none
  z_min : mg "min" = none
  z_len : mg "len" = none
  z_any : mg "any" = none
  z_list : mg "list" = none
  z_abs : mg "abs" = none
  z_str : mg "str" = none
  z_tuple : mg "tuple" = none
  z_zip : mg "zip" = none
  z_all : mg "all" = none
  e_BadFleet : ExcF K mg "BadFleet"
  e_BadNumber : ExcF K mg "BadNumber"
  g_MOST_SLIP : ∃ t, mg "MOST_SLIP" = some (.int 12 t)
noncomputable section
variable {P : Program} {w : World} {K : PySem.W.Frag} {mg : Str → Option Value} {base : Heap}
abbrev s_is_number : Stmt := topS 6
theorem sc_is_number : FnScope ["thing"] ["thing"] (defScope s_is_number) := ⟨rfl, rfl, rfl, by decide +kernel, rfl, by decide +kernel, by decide +kernel⟩
def b_is_number : S := (sq (retS (andV (isiM "int" (see (seeN 0))) (notV (isiM "bool" (see (seeN 0)))))) RS.nx)
def m_is_number : List T → R T := bodyR 0 [true] b_is_number
theorem ok_is_number (T : Tx K mg) (n : Nat) : Callee P w K mg base (n + 1) "is_number" ["thing"] m_is_number := callee_of (m := b_is_number) (ex := 0) (kp := [true]) (by decide) T.d_is_number sc_is_number rfl fun f cdv A outer s H E hr => (pss_consS (ps_retS (pe_andV (c_isi T.z_isinstance rfl T.z_int rfl boot_int (by decide) rfl (pe_atv (pe_seeN (i := 0) rfl (.inl rfl) rfl rfl)) rfl) (pe_one (pe_notV (c_isi T.z_isinstance rfl T.z_bool rfl boot_bool (by decide) rfl (pe_atv (pe_seeN (i := 0) rfl (.inl rfl) rfl rfl)) rfl))))) pss_nilS)
abbrev s_between : Stmt := topS 7
theorem sc_between : FnScope ["thing", "low", "high"] ["thing", "low", "high"] (defScope s_between) := ⟨rfl, rfl, rfl, by decide +kernel, rfl, by decide +kernel, by decide +kernel⟩
def b_between : S := (sq (retS (andV (callM m_is_number [none] (argEx (rdz 0) (M.ret []))) (chM oLe oLe (zT (rdz 1)) (zT (rdz 0)) (see (seeN 2))))) RS.nx)
def m_between : List T → R T := bodyR 0 [true, true, true] b_between
theorem ok_between (T : Tx K mg) (n : Nat) : Callee P w K mg base (n + 2) "between" ["thing", "low", "high"] m_between := callee_of (m := b_between) (ex := 0) (kp := [true, true, true]) (by decide) T.d_between sc_between rfl fun f cdv A outer s H E hr => (pss_consS (ps_retS (pe_andV (c_own (tks := [none]) ((ok_is_number T 0).mono (show 0 + 1 ≤ n + 1 by omega)) hr rfl takes_cx (pa_arEx (pe_rdz (i := 0) rfl (.inl rfl) rfl rfl) pa_arNil rfl) rfl rfl rfl) (pe_one (e_chain op_le op_le opLe opLe (e_zT (pe_rdz (i := 1) rfl (.inl rfl) rfl rfl)) (e_zT (pe_rdz (i := 0) rfl (.inl rfl) rfl rfl)) (pe_atv (pe_seeN (i := 2) rfl (.inl rfl) rfl rfl)) (by with_unfolding_all rfl))))) pss_nilS)
abbrev s_is_slip : Stmt := topS 8
theorem sc_is_slip : FnScope ["thing"] ["thing"] (defScope s_is_slip) := ⟨rfl, rfl, rfl, by decide +kernel, rfl, by decide +kernel, by decide +kernel⟩
def b_is_slip : S := (sq (retS (callM m_between [none, none, none] (argEx (rdz 0) (argEx (kT (.int 1)) (argEx (kT (.int 12)) (M.ret [])))))) RS.nx)
def m_is_slip : List T → R T := bodyR 0 [true] b_is_slip
theorem ok_is_slip (T : Tx K mg) (n : Nat) : Callee P w K mg base (n + 3) "is_slip" ["thing"] m_is_slip := callee_of (m := b_is_slip) (ex := 0) (kp := [true]) (by decide) T.d_is_slip sc_is_slip rfl fun f cdv A outer s H E hr => (pss_consS (ps_retS (c_own (tks := [none, none, none]) ((ok_between T 0).mono (show 0 + 2 ≤ n + 2 by omega)) hr rfl takes_cx (pa_arEx (pe_rdz (i := 0) rfl (.inl rfl) rfl rfl) (pa_arEx (e_kT pe_int fun _ => .int _) (pa_arEx (e_kT (pe_gint T.g_MOST_SLIP rfl rfl) fun _ => .int _) pa_arNil rfl) rfl) rfl) rfl rfl rfl)) pss_nilS)
abbrev s_rising : Stmt := topS 9
theorem sc_rising : FnScope ["timbers"] ["timbers"] (defScope s_rising) := ⟨rfl, rfl, rfl, by decide +kernel, rfl, by decide +kernel, by decide +kernel⟩
def b_rising : S := (sq (retS (un1 oSorted (zT (un1 oSet (see (seeN 0)))))) RS.nx)
def m_rising : List T → R T := bodyR 0 [true] b_rising
theorem ok_rising (T : Tx K mg) (n : Nat) : Callee P w K mg base (n + 1) "rising" ["timbers"] m_rising := callee_of (m := b_rising) (ex := 0) (kp := [true]) (by decide) T.d_rising sc_rising rfl fun f cdv A outer s H E hr => (pss_consS (ps_retS (c_sorted rfl T.z_sorted rfl (pe_zv (e_zT (c_set rfl T.z_set rfl (pe_atv (pe_seeN (i := 0) rfl (.inl rfl) rfl rfl)) rfl))) rfl)) pss_nilS)
abbrev s_common : Stmt := topS 10
theorem sc_common : FnScope ["one", "other", "timber"] ["one", "other"] (defScope s_common) := ⟨rfl, rfl, rfl, by decide +kernel, rfl, by decide +kernel, by decide +kernel⟩
def b_common : S := (sq (retS (compM (itM itemsOf (zT (callM m_rising [none] (argEx (rdz 0) (M.ret []))))) [2] (Tg.n 2).put (tsB (binA oIn (see (seeN 2)) (seeN 1))) (zT (rdz 2)))) RS.nx)
def m_common : List T → R T := bodyR 1 [true, true] b_common
theorem ok_common (T : Tx K mg) (n : Nat) : Callee P w K mg base (n + 2) "common" ["one", "other"] m_common := callee_of (m := b_common) (ex := 1) (kp := [true, true]) (by decide) T.d_common sc_common rfl fun f cdv A outer s H E hr => (pss_consS (ps_retS (pe_compM (own := [("timber", 2)]) (put := (Tg.n 2).put) rfl sc_common.nd (i_seq (e_zT (c_own (tks := [none]) ((ok_rising T 0).mono (show 0 + 1 ≤ n + 1 by omega)) hr rfl takes_cx (pa_arEx (pe_rdz (i := 0) rfl (.inl rfl) rfl rfl) pa_arNil rfl) rfl rfl rfl))) (blkOk_by (N := ["one", "other", "timber"]) (sc := defScope s_common) (by decide +kernel)) (fun _ _ _ _ _ => (pg_n (i := 2) sc_common.nd rfl (.inl rfl) (.inr rfl) (show 2 ∉ others 3 [2] by decide))) (fun _ _ _ _ _ => (pts_oneB (t_cmpA (op_inAll (hu65 hr)) opIn (pe_atv (pe_seeN (i := 2) rfl (.inl rfl) rfl rfl)) (pe_seeN (i := 1) rfl (.inr (.inl rfl)) rfl rfl) rfl))) (fun _ _ _ _ _ => (e_zT (pe_rdz (i := 2) rfl (.inl rfl) rfl rfl))) (fun _ => rfl) (put_length _))) pss_nilS)
abbrev s_apart : Stmt := topS 11
theorem sc_apart : FnScope ["one", "other", "timber"] ["one", "other"] (defScope s_apart) := ⟨rfl, rfl, rfl, by decide +kernel, rfl, by decide +kernel, by decide +kernel⟩
def b_apart : S := (sq (retS (compM (itM itemsOf (zT (callM m_rising [none] (argEx (rdz 0) (M.ret []))))) [2] (Tg.n 2).put (tsB (binA oNotIn (see (seeN 2)) (seeN 1))) (zT (rdz 2)))) RS.nx)
def m_apart : List T → R T := bodyR 1 [true, true] b_apart
theorem ok_apart (T : Tx K mg) (n : Nat) : Callee P w K mg base (n + 2) "apart" ["one", "other"] m_apart := callee_of (m := b_apart) (ex := 1) (kp := [true, true]) (by decide) T.d_apart sc_apart rfl fun f cdv A outer s H E hr => (pss_consS (ps_retS (pe_compM (own := [("timber", 2)]) (put := (Tg.n 2).put) rfl sc_apart.nd (i_seq (e_zT (c_own (tks := [none]) ((ok_rising T 0).mono (show 0 + 1 ≤ n + 1 by omega)) hr rfl takes_cx (pa_arEx (pe_rdz (i := 0) rfl (.inl rfl) rfl rfl) pa_arNil rfl) rfl rfl rfl))) (blkOk_by (N := ["one", "other", "timber"]) (sc := defScope s_apart) (by decide +kernel)) (fun _ _ _ _ _ => (pg_n (i := 2) sc_apart.nd rfl (.inl rfl) (.inr rfl) (show 2 ∉ others 3 [2] by decide))) (fun _ _ _ _ _ => (pts_oneB (t_cmpA (op_notInAll (hu65 hr)) opNotIn (pe_atv (pe_seeN (i := 2) rfl (.inl rfl) rfl rfl)) (pe_seeN (i := 1) rfl (.inr (.inl rfl)) rfl rfl) rfl))) (fun _ _ _ _ _ => (e_zT (pe_rdz (i := 2) rfl (.inl rfl) rfl rfl))) (fun _ => rfl) (put_length _))) pss_nilS)
abbrev s_alike : Stmt := topS 13
theorem sc_alike : FnScope ["one", "other", "both"] ["one", "other", "both"] (defScope s_alike) := ⟨rfl, rfl, rfl, by decide +kernel, rfl, by decide +kernel, by decide +kernel⟩
def b_alike : S := (sq (retS (andV (binA oGt (zT (binA oMul (see (kA (.int 2))) (seeN 2))) (seeN 0)) (binA oGt (zT (binA oMul (see (kA (.int 2))) (seeN 2))) (seeN 1)))) RS.nx)
def m_alike : List T → R T := bodyR 0 [true, true, true] b_alike
theorem ok_alike (T : Tx K mg) (n : Nat) : Callee P w K mg base (n + 1) "alike" ["one", "other", "both"] m_alike := callee_of (m := b_alike) (ex := 0) (kp := [true, true, true]) (by decide) T.d_alike sc_alike rfl fun f cdv A outer s H E hr => (pss_consS (ps_retS (pe_andV (e_cmpA op_gt opGt (pe_zv (e_zT (e_binA op_mulAll opMul (pe_atv (e_kA pe_int fun _ => .int _)) (pe_seeN (i := 2) rfl (.inl rfl) rfl rfl)))) (pe_seeN (i := 0) rfl (.inl rfl) rfl rfl) (nomark _)) (pe_one (e_cmpA op_gt opGt (pe_zv (e_zT (e_binA op_mulAll opMul (pe_atv (e_kA pe_int fun _ => .int _)) (pe_seeN (i := 2) rfl (.inl rfl) rfl rfl)))) (pe_seeN (i := 1) rfl (.inl rfl) rfl rfl) (nomark _))))) pss_nilS)
abbrev s_near : Stmt := topS 15
theorem sc_near : FnScope ["one", "other", "both", "k"] ["one", "other"] (defScope s_near) := ⟨rfl, rfl, rfl, by decide +kernel, rfl, by decide +kernel, by decide +kernel⟩
def b_near : S := (sq (setS 2 (un1 oSum (zT (compM (itM rng1 (see (kA (.int 3)))) [3] (Tg.n 3).put (M.ret true) (zT (binZ oMin2 (zT (binA oIx (see (seeN 0)) (seeN 3))) (zT (binA oIx (see (seeN 1)) (seeN 3))))))))) (sq (retS (callM m_alike [none, none, none] (argEx (fzM (un1 oSum (see (seeN 0)))) (argEx (fzM (un1 oSum (see (seeN 1)))) (argEx (rdz 2) (M.ret [])))))) RS.nx))
def m_near : List T → R T := bodyR 2 [true, true] b_near
theorem ok_near (T : Tx K mg) (n : Nat) : Callee P w K mg base (n + 2) "near" ["one", "other"] m_near := callee_of (m := b_near) (ex := 2) (kp := [true, true]) (by decide) T.d_near sc_near rfl fun f cdv A outer s H E hr => (pss_consS (ps_setS (i := 2) (c_sum rfl T.z_sum rfl (pe_zv (e_zT (pe_compM (own := [("k", 3)]) (put := (Tg.n 3).put) rfl sc_near.nd (i_rng1 T.z_range rfl (pe_atv (e_kA pe_int fun _ => .int _)) rfl) (blkOk_by (N := ["one", "other", "both", "k"]) (sc := defScope s_near) (by decide +kernel)) (fun _ _ _ _ _ => (pg_n (i := 3) sc_near.nd rfl (.inl rfl) (.inr rfl) (show 3 ∉ others 4 [3] by decide))) (fun _ _ _ _ _ => pts_nilB) (fun _ _ _ _ _ => (e_zT (c_minZ rfl T.z_min rfl (e_zT (e_ixA (hu1 hr) (pe_atv (pe_seeN (i := 0) rfl (.inr (.inl rfl)) rfl rfl)) (pe_seeN (i := 3) rfl (.inl rfl) rfl rfl) (fun _ _ => rfl))) (pe_zv (e_zT (e_ixA (hu1 hr) (pe_atv (pe_seeN (i := 1) rfl (.inr (.inl rfl)) rfl rfl)) (pe_seeN (i := 3) rfl (.inl rfl) rfl rfl) (fun _ _ => rfl)))) rfl rfl))) (fun _ => rfl) (put_length _)))) rfl) sc_near.nd rfl (.inl rfl) rfl (.inl rfl) (show 2 ∉ keptOf 0 [true, true] by decide)) (pss_consS (ps_retS (c_own (tks := [none, none, none]) ((ok_alike T 0).mono (show 0 + 1 ≤ n + 1 by omega)) hr rfl takes_cx (pa_arEx (e_fzM (c_sum rfl T.z_sum rfl (pe_atv (pe_seeN (i := 0) rfl (.inr (.inl rfl)) rfl rfl)) rfl)) (pa_arEx (e_fzM (c_sum rfl T.z_sum rfl (pe_atv (pe_seeN (i := 1) rfl (.inr (.inl rfl)) rfl rfl)) rfl)) (pa_arEx (pe_rdz (i := 2) rfl (.inl rfl) rfl rfl) pa_arNil rfl) rfl) rfl) rfl rfl rfl)) pss_nilS))
abbrev s_held : Stmt := topS 16
theorem sc_held : FnScope ["start", "goal", "slip", "one", "other"] ["start", "goal", "slip"] (defScope s_held) := ⟨rfl, rfl, rfl, by decide +kernel, rfl, by decide +kernel, by decide +kernel⟩
def b_held : S := (sq (ifS (notB (tsB (callM m_is_slip [none] (argEx (rdz 2) (M.ret []))))) (sq (RS.ex "BadNumber") RS.nx) RS.nx) (sq (setS 3 (fzM (callM m_rising [none] (argEx (rdz 0) (M.ret []))))) (sq (setS 4 (fzM (callM m_rising [none] (argEx (rdz 1) (M.ret []))))) (sq (ifS (orB (notB (chB oLe oLe (zT (kT (.int 1))) (zT (un1 oLen (see (seeN 3)))) (see (seeN 2)))) (notB (chB oLe oLe (zT (kT (.int 1))) (zT (un1 oLen (see (seeN 4)))) (see (seeN 2))))) (sq (RS.ex "BadFleet") RS.nx) RS.nx) (sq (retS (tupM (argEx (callM m_apart [none, none] (argEx (rdz 3) (argEx (rdz 4) (M.ret [])))) (argEx (callM m_common [none, none] (argEx (rdz 3) (argEx (rdz 4) (M.ret [])))) (argEx (callM m_apart [none, none] (argEx (rdz 4) (argEx (rdz 3) (M.ret [])))) (M.ret [])))))) RS.nx)))))
def m_held : List T → R T := bodyR 2 [true, true, true] b_held
theorem ok_held (T : Tx K mg) (n : Nat) : Callee P w K mg base (n + 4) "held" ["start", "goal", "slip"] m_held := callee_of (m := b_held) (ex := 2) (kp := [true, true, true]) (by decide) T.d_held sc_held rfl fun f cdv A outer s H E hr => (pss_consS (ps_ifS (t_not (t_plain (c_own (tks := [none]) ((ok_is_slip T 0).mono (show 0 + 3 ≤ n + 3 by omega)) hr rfl takes_cx (pa_arEx (pe_rdz (i := 2) rfl (.inl rfl) rfl rfl) pa_arNil rfl) rfl rfl rfl) rfl)) (pss_consS (ps_raiseO T.e_BadNumber rfl takes_cx rfl rfl) pss_nilS) pss_nilS) (pss_consS (ps_setS (i := 3) (e_fzM (c_own (tks := [none]) ((ok_rising T 0).mono (show 0 + 1 ≤ n + 3 by omega)) hr rfl takes_cx (pa_arEx (pe_rdz (i := 0) rfl (.inl rfl) rfl rfl) pa_arNil rfl) rfl rfl rfl)) sc_held.nd rfl (.inl rfl) rfl (.inl rfl) (show 3 ∉ keptOf 0 [true, true, true] by decide)) (pss_consS (ps_setS (i := 4) (e_fzM (c_own (tks := [none]) ((ok_rising T 0).mono (show 0 + 1 ≤ n + 3 by omega)) hr rfl takes_cx (pa_arEx (pe_rdz (i := 1) rfl (.inl rfl) rfl rfl) pa_arNil rfl) rfl rfl rfl)) sc_held.nd rfl (.inl rfl) rfl (.inl rfl) (show 4 ∉ keptOf 0 [true, true, true] by decide)) (pss_consS (ps_ifS (PW.pt (pw_orB (t_not (t_chain op_le op_le opLe opLe (e_zT (e_kT pe_int fun _ => .int _)) (e_zT (c_len T.z_len rfl (pe_atv (pe_seeN (i := 3) rfl (.inl rfl) rfl rfl)) rfl)) (pe_atv (pe_seeN (i := 2) rfl (.inl rfl) rfl rfl)) (by with_unfolding_all rfl))) (w_or1 (t_not (t_chain op_le op_le opLe opLe (e_zT (e_kT pe_int fun _ => .int _)) (e_zT (c_len T.z_len rfl (pe_atv (pe_seeN (i := 4) rfl (.inl rfl) rfl rfl)) rfl)) (pe_atv (pe_seeN (i := 2) rfl (.inl rfl) rfl rfl)) (by with_unfolding_all rfl)))))) (pss_consS (ps_raiseO T.e_BadFleet rfl takes_cx rfl rfl) pss_nilS) pss_nilS) (pss_consS (ps_retS (pe_tupM (pa_arEx (c_own (tks := [none, none]) ((ok_apart T 0).mono (show 0 + 2 ≤ n + 3 by omega)) hr rfl takes_cx (pa_arEx (pe_rdz (i := 3) rfl (.inl rfl) rfl rfl) (pa_arEx (pe_rdz (i := 4) rfl (.inl rfl) rfl rfl) pa_arNil rfl) rfl) rfl rfl rfl) (pa_arEx (c_own (tks := [none, none]) ((ok_common T 0).mono (show 0 + 2 ≤ n + 3 by omega)) hr rfl takes_cx (pa_arEx (pe_rdz (i := 3) rfl (.inl rfl) rfl rfl) (pa_arEx (pe_rdz (i := 4) rfl (.inl rfl) rfl rfl) pa_arNil rfl) rfl) rfl rfl rfl) (pa_arEx (c_own (tks := [none, none]) ((ok_apart T 0).mono (show 0 + 2 ≤ n + 3 by omega)) hr rfl takes_cx (pa_arEx (pe_rdz (i := 4) rfl (.inl rfl) rfl rfl) (pa_arEx (pe_rdz (i := 3) rfl (.inl rfl) rfl rfl) pa_arNil rfl) rfl) rfl rfl rfl) pa_arNil rfl) rfl) rfl))) pss_nilS)))))
def l0_stages_of : S := (sq (ifS (chB oLe oLe (zT (kT (.int 1))) (zT (binA oAdd (zT (binA oAdd (see (seeN 3)) (seeN 4))) (seeN 5))) (see (seeN 1))) (sq (exprS (appM 2 (tupM (argEx (rdz 3) (argEx (rdz 4) (argEx (rdz 5) (M.ret []))))))) RS.nx) RS.nx) RS.nx)
def l1_stages_of : S := (sq (forS (itM rng1 (zT (binA oAdd (zT (un1 oLen (zT (binA oIx (see (seeN 0)) (kA (.int 2)))))) (kA (.int 1))))) (Tg.n 5).put l0_stages_of) RS.nx)
def l2_stages_of : S := (sq (forS (itM rng1 (zT (binA oAdd (zT (un1 oLen (zT (binA oIx (see (seeN 0)) (kA (.int 1)))))) (kA (.int 1))))) (Tg.n 4).put l1_stages_of) RS.nx)
abbrev s_stages_of : Stmt := topS 17
theorem sc_stages_of : FnScope ["kinds", "slip", "found", "alone", "both", "wished"] ["kinds", "slip"] (defScope s_stages_of) := ⟨rfl, rfl, rfl, by decide +kernel, rfl, by decide +kernel, by decide +kernel⟩
def b_stages_of : S := (sq (setS 2 (lstM (M.ret []))) (sq (forS (itM rng1 (zT (binA oAdd (zT (un1 oLen (zT (binA oIx (see (seeN 0)) (kA (.int 0)))))) (kA (.int 1))))) (Tg.n 3).put l2_stages_of) (sq (retS (mv 2)) RS.nx)))
def m_stages_of : List T → R T := bodyR 4 [true, true] b_stages_of
theorem ok_stages_of (T : Tx K mg) (n : Nat) : Callee P w K mg base (n + 1) "stages_of" ["kinds", "slip"] m_stages_of := callee_of (m := b_stages_of) (ex := 4) (kp := [true, true]) (by decide) T.d_stages_of sc_stages_of rfl fun f cdv A outer s H E hr => (pss_consS (ps_setS (i := 2) (pe_lstM pa_arNil) sc_stages_of.nd rfl (.inl rfl) rfl (.inl rfl) (show 2 ∉ keptOf 0 [true, true] by decide)) (pss_consS (ps_forS passes_cx rfl (i_rng1 T.z_range rfl (pe_zv (e_zT (e_binA op_addAll opAdd (pe_zv (e_zT (c_len T.z_len rfl (pe_zv (e_zT (e_ixA (hu1 hr) (pe_atv (pe_seeN (i := 0) rfl (.inl rfl) rfl rfl)) (e_kA pe_int fun _ => .int _) (fun _ _ => rfl)))) rfl))) (e_kA pe_int fun _ => .int _)))) rfl) (pg_n (i := 3) sc_stages_of.nd rfl (.inl rfl) (.inl rfl) (show 3 ∉ keptOf 0 [true, true] by decide)) (pss_consS (ps_forS passes_cx rfl (i_rng1 T.z_range rfl (pe_zv (e_zT (e_binA op_addAll opAdd (pe_zv (e_zT (c_len T.z_len rfl (pe_zv (e_zT (e_ixA (hu1 hr) (pe_atv (pe_seeN (i := 0) rfl (.inl rfl) rfl rfl)) (e_kA pe_int fun _ => .int _) (fun _ _ => rfl)))) rfl))) (e_kA pe_int fun _ => .int _)))) rfl) (pg_n (i := 4) sc_stages_of.nd rfl (.inl rfl) (.inl rfl) (show 4 ∉ keptOf 0 [true, true] by decide)) (pss_consS (ps_forS passes_cx rfl (i_rng1 T.z_range rfl (pe_zv (e_zT (e_binA op_addAll opAdd (pe_zv (e_zT (c_len T.z_len rfl (pe_zv (e_zT (e_ixA (hu1 hr) (pe_atv (pe_seeN (i := 0) rfl (.inl rfl) rfl rfl)) (e_kA pe_int fun _ => .int _) (fun _ _ => rfl)))) rfl))) (e_kA pe_int fun _ => .int _)))) rfl) (pg_n (i := 5) sc_stages_of.nd rfl (.inl rfl) (.inl rfl) (show 5 ∉ keptOf 0 [true, true] by decide)) (pss_consS (ps_ifS (t_chain op_le op_le opLe opLe (e_zT (e_kT pe_int fun _ => .int _)) (e_zT (e_binA op_addAll opAdd (pe_zv (e_zT (e_binA op_addAll opAdd (pe_atv (pe_seeN (i := 3) rfl (.inl rfl) rfl rfl)) (pe_seeN (i := 4) rfl (.inl rfl) rfl rfl)))) (pe_seeN (i := 5) rfl (.inl rfl) rfl rfl))) (pe_atv (pe_seeN (i := 1) rfl (.inl rfl) rfl rfl)) (by with_unfolding_all rfl)) (pss_consS (ps_exprS (pe_appM (i := 2) rfl (.inl rfl) rfl rfl (pe_tupM (pa_arEx (pe_rdz (i := 3) rfl (.inl rfl) rfl rfl) (pa_arEx (pe_rdz (i := 4) rfl (.inl rfl) rfl rfl) (pa_arEx (pe_rdz (i := 5) rfl (.inl rfl) rfl rfl) pa_arNil rfl) rfl) rfl)) rfl rfl) rfl) pss_nilS) pss_nilS) pss_nilS) (fun _ => rfl)) pss_nilS) (fun _ => rfl)) pss_nilS) (fun _ => rfl)) (pss_consS (ps_retS (pe_mv (i := 2) rfl (.inl rfl) rfl rfl)) pss_nilS)))
abbrev s_ends_of : Stmt := topS 18
theorem sc_ends_of : FnScope ["kinds", "start"] ["kinds"] (defScope s_ends_of) := ⟨rfl, rfl, rfl, by decide +kernel, rfl, by decide +kernel, by decide +kernel⟩
def b_ends_of : S := (sq (setS 1 (fzM (tupM (argEx (un1 oLen (zT (binA oIx (see (seeN 0)) (kA (.int 0))))) (argEx (un1 oLen (zT (binA oIx (see (seeN 0)) (kA (.int 1))))) (argEx (kT (.int 0)) (M.ret []))))))) (sq (retS (tupM (argEx (rdz 1) (argEx (tupM (argEx (kT (.int 0)) (argEx (un1 oLen (zT (binA oIx (see (seeN 0)) (kA (.int 1))))) (argEx (un1 oLen (zT (binA oIx (see (seeN 0)) (kA (.int 2))))) (M.ret []))))) (M.ret []))))) RS.nx))
def m_ends_of : List T → R T := bodyR 1 [true] b_ends_of
theorem ok_ends_of (T : Tx K mg) (n : Nat) : Callee P w K mg base (n + 1) "ends_of" ["kinds"] m_ends_of := callee_of (m := b_ends_of) (ex := 1) (kp := [true]) (by decide) T.d_ends_of sc_ends_of rfl fun f cdv A outer s H E hr => (pss_consS (ps_setS (i := 1) (e_fzM (pe_tupM (pa_arEx (c_len T.z_len rfl (pe_zv (e_zT (e_ixA (hu1 hr) (pe_atv (pe_seeN (i := 0) rfl (.inl rfl) rfl rfl)) (e_kA pe_int fun _ => .int _) (fun _ _ => rfl)))) rfl) (pa_arEx (c_len T.z_len rfl (pe_zv (e_zT (e_ixA (hu1 hr) (pe_atv (pe_seeN (i := 0) rfl (.inl rfl) rfl rfl)) (e_kA pe_int fun _ => .int _) (fun _ _ => rfl)))) rfl) (pa_arEx (e_kT pe_int fun _ => .int _) pa_arNil rfl) rfl) rfl))) sc_ends_of.nd rfl (.inl rfl) rfl (.inl rfl) (show 1 ∉ keptOf 0 [true] by decide)) (pss_consS (ps_retS (pe_tupM (pa_arEx (pe_rdz (i := 1) rfl (.inl rfl) rfl rfl) (pa_arEx (pe_tupM (pa_arEx (e_kT pe_int fun _ => .int _) (pa_arEx (c_len T.z_len rfl (pe_zv (e_zT (e_ixA (hu1 hr) (pe_atv (pe_seeN (i := 0) rfl (.inl rfl) rfl rfl)) (e_kA pe_int fun _ => .int _) (fun _ _ => rfl)))) rfl) (pa_arEx (c_len T.z_len rfl (pe_zv (e_zT (e_ixA (hu1 hr) (pe_atv (pe_seeN (i := 0) rfl (.inl rfl) rfl rfl)) (e_kA pe_int fun _ => .int _) (fun _ _ => rfl)))) rfl) pa_arNil rfl) rfl) rfl)) pa_arNil rfl) rfl))) pss_nilS))
def l0_heights_of : S := (sq (stM 3 (zT (rdz 7)) (rdz 6)) RS.nx)
def l1_heights_of : S := (sq (augS 6 (fun x y => x + y) (zT (kT (.int 1)))) (sq (setS 4 (fzM (compM (itM itemsOf (zT (rdz 5))) [7] (Tg.n 7).put (tsB (un1 oAny (zT (compM (itM itemsOf (zT (rdz 4))) [8] (Tg.n 8).put (M.ret true) (zT (callM m_near [none, none] (argEx (rdz 7) (argEx (rdz 8) (M.ret []))))))))) (zT (rdz 7))))) (sq (forS (itM itemsOf (zT (rdz 4))) (Tg.n 7).put l0_heights_of) (sq (setS 5 (compM (itM itemsOf (zT (rdz 5))) [7] (Tg.n 7).put (tsB (binA oNotIn (see (seeN 7)) (seeN 3))) (zT (rdz 7)))) RS.nx))))
abbrev s_heights_of : Stmt := topS 19
theorem sc_heights_of : FnScope ["kinds", "slip", "goal", "found", "rim", "left", "height", "stage", "other"] ["kinds", "slip"] (defScope s_heights_of) := ⟨rfl, rfl, rfl, by decide +kernel, rfl, by decide +kernel, by decide +kernel⟩
def b_heights_of : S := (sq (setS 2 (fzM (binA oIx (zT (callM m_ends_of [none] (argEx (rdz 0) (M.ret [])))) (kA (.int 1))))) (sq (setS 3 (dsT (zT (rdz 2)) (zT (kT (.int 0))))) (sq (setS 4 (fzM (lstM (argEx (rdz 2) (M.ret []))))) (sq (setS 5 (compM (itM itemsOf (zT (callM m_stages_of [none, none] (argEx (rdz 0) (argEx (rdz 1) (M.ret [])))))) [7] (Tg.n 7).put (tsB (binA oNe (see (seeN 7)) (seeN 2))) (zT (rdz 7)))) (sq (setS 6 (kT (.int 0))) (sq (whileS (tsB (binA oGt (zT (un1 oLen (see (seeN 4)))) (kA (.int 0)))) l1_heights_of) (sq (retS (mv 3)) RS.nx)))))))
def m_heights_of : List T → R T := bodyR 7 [true, true] b_heights_of
theorem ok_heights_of (T : Tx K mg) (n : Nat) : Callee P w K mg base (n + 3) "heights_of" ["kinds", "slip"] m_heights_of := callee_of (m := b_heights_of) (ex := 7) (kp := [true, true]) (by decide) T.d_heights_of sc_heights_of rfl fun f cdv A outer s H E hr => (pss_consS (ps_setS (i := 2) (e_fzM (e_ixA (hu1 hr) (pe_zv (e_zT (c_own (tks := [none]) ((ok_ends_of T 0).mono (show 0 + 1 ≤ n + 2 by omega)) hr rfl takes_cx (pa_arEx (pe_rdz (i := 0) rfl (.inl rfl) rfl rfl) pa_arNil rfl) rfl rfl rfl))) (e_kA pe_int fun _ => .int _) (fun _ _ => rfl))) sc_heights_of.nd rfl (.inr rfl) rfl (.inl rfl) (show 2 ∉ keptOf 0 [true, true] by decide)) (pss_consS (ps_setS (i := 3) (pe_dsT (hu1 hr) (e_zT (pe_rdz (i := 2) rfl (.inr (.inl rfl)) rfl rfl)) (e_zT (e_kT pe_int fun _ => .int _))) sc_heights_of.nd rfl (.inr rfl) rfl (.inl rfl) (show 3 ∉ keptOf 0 [true, true] by decide)) (pss_consS (ps_setS (i := 4) (e_fzM (pe_lstM (pa_arEx (pe_rdz (i := 2) rfl (.inr (.inl rfl)) rfl rfl) pa_arNil rfl))) sc_heights_of.nd rfl (.inr rfl) rfl (.inl rfl) (show 4 ∉ keptOf 0 [true, true] by decide)) (pss_consS (ps_setCompM (i := 5) (own := [("stage", 7)]) (put := (Tg.n 7).put) rfl sc_heights_of.nd rfl rfl (sw_true rfl rfl rfl (by decide +kernel)) (i_seq (e_zT (c_own (tks := [none, none]) ((ok_stages_of T 0).mono (show 0 + 1 ≤ n + 2 by omega)) hr rfl takes_cx (pa_arEx (pe_rdz (i := 0) rfl (.inl rfl) rfl rfl) (pa_arEx (pe_rdz (i := 1) rfl (.inl rfl) rfl rfl) pa_arNil rfl) rfl) rfl rfl rfl))) (blkOk_by (N := ["kinds", "slip", "goal", "found", "rim", "left", "height", "stage", "other"]) (sc := defScope s_heights_of) (by decide +kernel)) (fun _ _ _ _ _ => (pg_n (i := 7) sc_heights_of.nd rfl (.inl rfl) (.inr rfl) (show 7 ∉ others 9 [7] by decide))) (fun _ _ _ _ _ => (pts_oneB (t_cmpA (op_neD (hu64 hr)) opNe (pe_atv (pe_seeN (i := 7) rfl (.inl rfl) rfl rfl)) (pe_seeN (i := 2) rfl (.inr (.inl rfl)) rfl rfl) (nomark _)))) (fun _ _ _ _ _ => (e_zT (pe_rdz (i := 7) rfl (.inl rfl) rfl rfl))) (fun _ => rfl) (put_length _) (show 5 ∉ keptOf 0 [true, true] by decide)) (pss_consS (ps_setS (i := 6) (e_kT pe_int fun _ => .int _) sc_heights_of.nd rfl (.inl rfl) rfl (.inl rfl) (show 6 ∉ keptOf 0 [true, true] by decide)) (pss_consS (ps_whileS passes_cx (t_cmpA op_gt opGt (pe_zv (e_zT (c_len T.z_len rfl (pe_atv (pe_seeN (i := 4) rfl (.inr (.inl rfl)) rfl rfl)) rfl))) (e_kA pe_int fun _ => .int _) (nomark _)) (pss_consS (ps_augS' (i := 6) (e_zT (e_kT pe_int fun _ => .int _)) ip_add sc_heights_of.nd rfl (.inl rfl) (.inl rfl) (show 6 ∉ keptOf 0 [true, true] by decide)) (pss_consS (ps_setS (i := 4) (e_fzM (pe_compM (own := [("stage", 7)]) (put := (Tg.n 7).put) rfl sc_heights_of.nd (i_seq (e_zT (pe_rdz (i := 5) rfl (.inl rfl) rfl rfl))) (blkOk_by (N := ["kinds", "slip", "goal", "found", "rim", "left", "height", "stage", "other"]) (sc := defScope s_heights_of) (by decide +kernel)) (fun _ _ _ _ _ => (pg_n (i := 7) sc_heights_of.nd rfl (.inr rfl) (.inl rfl) (show 7 ∉ others 9 [7] by decide))) (fun _ _ _ _ _ => (pts_oneB (t_plain (c_any rfl T.z_any rfl (pe_zv (e_zT (pe_compM (own := [("other", 8)]) (put := (Tg.n 8).put) rfl sc_heights_of.nd (i_seq (e_zT (pe_rdz (i := 4) rfl (.inr (.inl rfl)) rfl rfl))) (blkOk_by (N := ["kinds", "slip", "goal", "found", "rim", "left", "height", "stage", "other"]) (sc := _) rfl) (fun _ _ _ _ _ => (pg_n (i := 8) sc_heights_of.nd rfl (.inl rfl) (.inr rfl) (show 8 ∉ others 9 [8] by decide))) (fun _ _ _ _ _ => pts_nilB) (fun _ _ _ _ _ => (e_zT (c_own (tks := [none, none]) ((ok_near T 0).mono (show 0 + 2 ≤ n + 2 by omega)) hr rfl takes0 (pa_arEx (pe_rdz (i := 7) rfl (.inr (.inl rfl)) rfl rfl) (pa_arEx (pe_rdz (i := 8) rfl (.inl rfl) rfl rfl) pa_arNil rfl) rfl) rfl rfl rfl))) (fun _ => rfl) (put_length _)))) rfl) rfl))) (fun _ _ _ _ _ => (e_zT (pe_rdz (i := 7) rfl (.inr (.inl rfl)) rfl rfl))) (fun _ => rfl) (put_length _))) sc_heights_of.nd rfl (.inr rfl) rfl (.inl rfl) (show 4 ∉ keptOf 0 [true, true] by decide)) (pss_consS (ps_forS passes_cx rfl (i_seq (e_zT (pe_rdz (i := 4) rfl (.inr (.inl rfl)) rfl rfl))) (pg_n (i := 7) sc_heights_of.nd rfl (.inl rfl) (.inl rfl) (show 7 ∉ keptOf 0 [true, true] by decide)) (pss_consS (ps_stM (i := 3) (hu1 hr) rfl (.inr (.inl rfl)) rfl rfl (pe_rdz (i := 6) rfl (.inl rfl) rfl rfl) (e_zT (pe_rdz (i := 7) rfl (.inl rfl) rfl rfl)) rfl rfl (fun _ => rfl)) pss_nilS) (fun _ => rfl)) (pss_consS (ps_setCompM (i := 5) (own := [("stage", 7)]) (put := (Tg.n 7).put) rfl sc_heights_of.nd rfl rfl (sw_true rfl rfl rfl (by decide +kernel)) (i_seq (e_zT (pe_rdz (i := 5) rfl (.inl rfl) rfl rfl))) (blkOk_by (N := ["kinds", "slip", "goal", "found", "rim", "left", "height", "stage", "other"]) (sc := defScope s_heights_of) (by decide +kernel)) (fun _ _ _ _ _ => (pg_n (i := 7) sc_heights_of.nd rfl (.inl rfl) (.inr rfl) (show 7 ∉ others 9 [7] by decide))) (fun _ _ _ _ _ => (pts_oneB (t_cmpA (op_notInAll (hu65 hr)) opNotIn (pe_atv (pe_seeN (i := 7) rfl (.inl rfl) rfl rfl)) (pe_seeN (i := 3) rfl (.inr (.inl rfl)) rfl rfl) rfl))) (fun _ _ _ _ _ => (e_zT (pe_rdz (i := 7) rfl (.inl rfl) rfl rfl))) (fun _ => rfl) (put_length _) (show 5 ∉ keptOf 0 [true, true] by decide)) pss_nilS))))) (pss_consS (ps_retS (pe_mv (i := 3) rfl (.inr (.inl rfl)) rfl rfl)) pss_nilS)))))))
abbrev s_heights : Stmt := topS 20
theorem sc_heights : FnScope ["start", "goal", "slip", "kinds", "found", "stage"] ["start", "goal", "slip"] (defScope s_heights) := ⟨rfl, rfl, rfl, by decide +kernel, rfl, by decide +kernel, by decide +kernel⟩
def b_heights : S := (sq (setS 3 (fzM (callM m_held [none, none, none] (argEx (rdz 0) (argEx (rdz 1) (argEx (rdz 2) (M.ret []))))))) (sq (setS 4 (fzM (callM m_heights_of [none, none] (argEx (rdz 3) (argEx (rdz 2) (M.ret [])))))) (sq (retS (compM (itM itemsOf (zT (callM m_stages_of [none, none] (argEx (rdz 3) (argEx (rdz 2) (M.ret [])))))) [5] (Tg.n 5).put (M.ret true) (zT (binZ oAdd (zT (rdz 5)) (zT (tupM (argEx (get1 (zT (rdz 4)) (see (seeN 5))) (M.ret [])))))))) RS.nx)))
def m_heights : List T → R T := bodyR 3 [true, true, true] b_heights
theorem ok_heights (T : Tx K mg) (n : Nat) : Callee P w K mg base (n + 5) "heights" ["start", "goal", "slip"] m_heights := callee_of (m := b_heights) (ex := 3) (kp := [true, true, true]) (by decide) T.d_heights sc_heights rfl fun f cdv A outer s H E hr => (pss_consS (ps_setS (i := 3) (e_fzM (c_own (tks := [none, none, none]) ((ok_held T 0).mono (show 0 + 4 ≤ n + 4 by omega)) hr rfl takes_cx (pa_arEx (pe_rdz (i := 0) rfl (.inl rfl) rfl rfl) (pa_arEx (pe_rdz (i := 1) rfl (.inl rfl) rfl rfl) (pa_arEx (pe_rdz (i := 2) rfl (.inl rfl) rfl rfl) pa_arNil rfl) rfl) rfl) rfl rfl rfl)) sc_heights.nd rfl (.inl rfl) rfl (.inl rfl) (show 3 ∉ keptOf 0 [true, true, true] by decide)) (pss_consS (ps_setS (i := 4) (e_fzM (c_own (tks := [none, none]) ((ok_heights_of T 0).mono (show 0 + 3 ≤ n + 4 by omega)) hr rfl takes_cx (pa_arEx (pe_rdz (i := 3) rfl (.inl rfl) rfl rfl) (pa_arEx (pe_rdz (i := 2) rfl (.inl rfl) rfl rfl) pa_arNil rfl) rfl) rfl rfl rfl)) sc_heights.nd rfl (.inr rfl) rfl (.inl rfl) (show 4 ∉ keptOf 0 [true, true, true] by decide)) (pss_consS (ps_retS (pe_compM (own := [("stage", 5)]) (put := (Tg.n 5).put) rfl sc_heights.nd (i_seq (e_zT (c_own (tks := [none, none]) ((ok_stages_of T 0).mono (show 0 + 1 ≤ n + 4 by omega)) hr rfl takes_cx (pa_arEx (pe_rdz (i := 3) rfl (.inl rfl) rfl rfl) (pa_arEx (pe_rdz (i := 2) rfl (.inl rfl) rfl rfl) pa_arNil rfl) rfl) rfl rfl rfl))) (blkOk_by (N := ["start", "goal", "slip", "kinds", "found", "stage"]) (sc := defScope s_heights) (by decide +kernel)) (fun _ _ _ _ _ => (pg_n (i := 5) sc_heights.nd rfl (.inl rfl) (.inr rfl) (show 5 ∉ others 6 [5] by decide))) (fun _ _ _ _ _ => pts_nilB) (fun _ _ _ _ _ => (e_zT (e_binZ op_addAll opAdd (e_zT (pe_rdz (i := 5) rfl (.inl rfl) rfl rfl)) (pe_zv (e_zT (pe_tupM (pa_arEx (c_get1 (hu1 hr) (e_zT (pe_rdz (i := 4) rfl (.inr (.inl rfl)) rfl rfl)) (pe_atv (pe_seeN (i := 5) rfl (.inl rfl) rfl rfl)) rfl rfl rfl) pa_arNil rfl))))))) (fun _ => rfl) (put_length _))) pss_nilS)))
abbrev s_fewest : Stmt := topS 21
theorem sc_fewest : FnScope ["start", "goal", "slip", "kinds"] ["start", "goal", "slip"] (defScope s_fewest) := ⟨rfl, rfl, rfl, by decide +kernel, rfl, by decide +kernel, by decide +kernel⟩
def b_fewest : S := (sq (setS 3 (fzM (callM m_held [none, none, none] (argEx (rdz 0) (argEx (rdz 1) (argEx (rdz 2) (M.ret []))))))) (sq (retS (get1 (zT (callM m_heights_of [none, none] (argEx (rdz 3) (argEx (rdz 2) (M.ret []))))) (zT (binA oIx (zT (callM m_ends_of [none] (argEx (rdz 3) (M.ret [])))) (kA (.int 0)))))) RS.nx))
def m_fewest : List T → R T := bodyR 1 [true, true, true] b_fewest
theorem ok_fewest (T : Tx K mg) (n : Nat) : Callee P w K mg base (n + 5) "fewest" ["start", "goal", "slip"] m_fewest := callee_of (m := b_fewest) (ex := 1) (kp := [true, true, true]) (by decide) T.d_fewest sc_fewest rfl fun f cdv A outer s H E hr => (pss_consS (ps_setS (i := 3) (e_fzM (c_own (tks := [none, none, none]) ((ok_held T 0).mono (show 0 + 4 ≤ n + 4 by omega)) hr rfl takes_cx (pa_arEx (pe_rdz (i := 0) rfl (.inl rfl) rfl rfl) (pa_arEx (pe_rdz (i := 1) rfl (.inl rfl) rfl rfl) (pa_arEx (pe_rdz (i := 2) rfl (.inl rfl) rfl rfl) pa_arNil rfl) rfl) rfl) rfl rfl rfl)) sc_fewest.nd rfl (.inl rfl) rfl (.inl rfl) (show 3 ∉ keptOf 0 [true, true, true] by decide)) (pss_consS (ps_retS (c_get1 (hu1 hr) (e_zT (c_own (tks := [none, none]) ((ok_heights_of T 0).mono (show 0 + 3 ≤ n + 4 by omega)) hr rfl takes_cx (pa_arEx (pe_rdz (i := 3) rfl (.inl rfl) rfl rfl) (pa_arEx (pe_rdz (i := 2) rfl (.inl rfl) rfl rfl) pa_arNil rfl) rfl) rfl rfl rfl)) (pe_zv (e_zT (e_ixA (hu1 hr) (pe_zv (e_zT (c_own (tks := [none]) ((ok_ends_of T 0).mono (show 0 + 1 ≤ n + 4 by omega)) hr rfl takes_cx (pa_arEx (pe_rdz (i := 3) rfl (.inl rfl) rfl rfl) pa_arNil rfl) rfl rfl rfl))) (e_kA pe_int fun _ => .int _) (fun _ _ => rfl)))) rfl rfl rfl)) pss_nilS))
def l0_refitted : S := (sq (setS 5 (fzM (callM m_common [none, none] (argEx (rdz 0) (argEx (fzM (binA oIx (see (seeN 1)) (seeN 4))) (M.ret [])))))) (sq (setS 3 (fzM (binZ oAdd (zT (rdz 3)) (zT (slM (zT (binZ oAdd (zT (rdz 5)) (zT (callM m_apart [none, none] (argEx (fzM (binA oIx (see (seeN 1)) (seeN 4))) (argEx (rdz 5) (M.ret []))))))) none (some (zT (binA oIx (see (seeN 2)) (seeN 4))))))))) RS.nx))
abbrev s_refitted : Stmt := topS 22
theorem sc_refitted : FnScope ["boat", "kinds", "stage", "found", "k", "here"] ["boat", "kinds", "stage"] (defScope s_refitted) := ⟨rfl, rfl, rfl, by decide +kernel, rfl, by decide +kernel, by decide +kernel⟩
def b_refitted : S := (sq (setS 3 (fzM (lstM (M.ret [])))) (sq (forS (itM rng1 (see (kA (.int 3)))) (Tg.n 4).put l0_refitted) (sq (retS (callM m_rising [none] (argEx (rdz 3) (M.ret [])))) RS.nx)))
def m_refitted : List T → R T := bodyR 3 [true, true, true] b_refitted
theorem ok_refitted (T : Tx K mg) (n : Nat) : Callee P w K mg base (n + 3) "refitted" ["boat", "kinds", "stage"] m_refitted := callee_of (m := b_refitted) (ex := 3) (kp := [true, true, true]) (by decide) T.d_refitted sc_refitted rfl fun f cdv A outer s H E hr => (pss_consS (ps_setS (i := 3) (e_fzM (pe_lstM pa_arNil)) sc_refitted.nd rfl (.inl rfl) rfl (.inl rfl) (show 3 ∉ keptOf 0 [true, true, true] by decide)) (pss_consS (ps_forS passes_cx rfl (i_rng1 T.z_range rfl (pe_atv (e_kA pe_int fun _ => .int _)) rfl) (pg_n (i := 4) sc_refitted.nd rfl (.inl rfl) (.inl rfl) (show 4 ∉ keptOf 0 [true, true, true] by decide)) (pss_consS (ps_setS (i := 5) (e_fzM (c_own (tks := [none, none]) ((ok_common T 0).mono (show 0 + 2 ≤ n + 2 by omega)) hr rfl takes_cx (pa_arEx (pe_rdz (i := 0) rfl (.inl rfl) rfl rfl) (pa_arEx (e_fzM (e_ixA (hu1 hr) (pe_atv (pe_seeN (i := 1) rfl (.inl rfl) rfl rfl)) (pe_seeN (i := 4) rfl (.inl rfl) rfl rfl) (fun _ _ => rfl))) pa_arNil rfl) rfl) rfl rfl rfl)) sc_refitted.nd rfl (.inl rfl) rfl (.inl rfl) (show 5 ∉ keptOf 0 [true, true, true] by decide)) (pss_consS (ps_setS (i := 3) (e_fzM (e_binZ op_addAll opAdd (e_zT (pe_rdz (i := 3) rfl (.inl rfl) rfl rfl)) (pe_zv (e_zT (pe_slM (e_zT (e_binZ op_addAll opAdd (e_zT (pe_rdz (i := 5) rfl (.inl rfl) rfl rfl)) (pe_zv (e_zT (c_own (tks := [none, none]) ((ok_apart T 0).mono (show 0 + 2 ≤ n + 2 by omega)) hr rfl takes_cx (pa_arEx (e_fzM (e_ixA (hu1 hr) (pe_atv (pe_seeN (i := 1) rfl (.inl rfl) rfl rfl)) (pe_seeN (i := 4) rfl (.inl rfl) rfl rfl) (fun _ _ => rfl))) (pa_arEx (pe_rdz (i := 5) rfl (.inl rfl) rfl rfl) pa_arNil rfl) rfl) rfl rfl rfl))))) po_noneM (po_someM (e_zT (e_ixA (hu1 hr) (pe_atv (pe_seeN (i := 2) rfl (.inl rfl) rfl rfl)) (pe_seeN (i := 4) rfl (.inl rfl) rfl rfl) (fun _ _ => rfl))))))))) sc_refitted.nd rfl (.inl rfl) rfl (.inl rfl) (show 3 ∉ keptOf 0 [true, true, true] by decide)) pss_nilS)) (fun _ => rfl)) (pss_consS (ps_retS (c_own (tks := [none]) ((ok_rising T 0).mono (show 0 + 1 ≤ n + 2 by omega)) hr rfl takes_cx (pa_arEx (pe_rdz (i := 3) rfl (.inl rfl) rfl rfl) pa_arNil rfl) rfl rfl rfl)) pss_nilS)))
def l0_carried : S := (sq (frmS 8 7 (setS 9 (compKT 4 [] [10] (Tg.n 10).put (andB (tsB (binZ oEq (zT (binA oIx (see (seeN 4)) (seeN 10))) (zT (binA oSub (zT (binA oIx (see (seeN 4)) (seeN 5))) (kA (.int 1)))))) (tsB (callM m_near [none, none] (argEx (rdz 5) (argEx (rdz 10) (M.ret [])))))) (zT (rdz 10))))) (sq (frmS 8 7 (setS 5 (un1 oMinT (see (seeN 9))))) (sq (tieSet 8 7 (callM m_refitted [none, none, none] (argEx (rdz 7) (argEx (rdz 3) (argEx (rdz 5) (M.ret [])))))) (sq (tieApp 8 7) RS.nx))))
abbrev s_carried : Stmt := topS 23
theorem sc_carried : FnScope ["start", "goal", "slip", "kinds", "found", "here", "end", "boat", "plan", "ways", "stage"] ["start", "goal", "slip"] (defScope s_carried) := ⟨rfl, rfl, rfl, by decide +kernel, rfl, by decide +kernel, by decide +kernel⟩
def b_carried : S := (sq (setS 3 (fzM (callM m_held [none, none, none] (argEx (rdz 0) (argEx (rdz 1) (argEx (rdz 2) (M.ret []))))))) (sq (setS 4 (fzM (callM m_heights_of [none, none] (argEx (rdz 3) (argEx (rdz 2) (M.ret [])))))) (sq (asgS (Tg.t [(Tg.n 5), (Tg.n 6)]) (zT (callM m_ends_of [none] (argEx (rdz 3) (M.ret []))))) (sq (ifS (tsB (binA oNotIn (see (seeN 5)) (seeN 4))) (sq (retS (kT .non)) RS.nx) RS.nx) (sq (setS 7 (fzM (callM m_rising [none] (argEx (rdz 0) (M.ret []))))) (sq (setS 8 (lstM (M.ret []))) (sq (whileT 7 (frmB 8 7 (tsB (binA oNe (see (seeN 5)) (seeN 6)))) l0_carried) (sq (retS (mv 8)) RS.nx))))))))
def m_carried : List T → R T := bodyR 8 [true, true, true] b_carried
theorem ok_carried (T : Tx K mg) (n : Nat) : Callee P w K mg base (n + 5) "carried" ["start", "goal", "slip"] m_carried := callee_of (m := b_carried) (ex := 8) (kp := [true, true, true]) (by decide) T.d_carried sc_carried rfl fun f cdv A outer s H E hr => (pss_consS (ps_setS (i := 3) (e_fzM (c_own (tks := [none, none, none]) ((ok_held T 0).mono (show 0 + 4 ≤ n + 4 by omega)) hr rfl takes_cx (pa_arEx (pe_rdz (i := 0) rfl (.inl rfl) rfl rfl) (pa_arEx (pe_rdz (i := 1) rfl (.inl rfl) rfl rfl) (pa_arEx (pe_rdz (i := 2) rfl (.inl rfl) rfl rfl) pa_arNil rfl) rfl) rfl) rfl rfl rfl)) sc_carried.nd rfl (.inl rfl) rfl (.inl rfl) (show 3 ∉ keptOf 0 [true, true, true] by decide)) (pss_consS (ps_setS (i := 4) (e_fzM (c_own (tks := [none, none]) ((ok_heights_of T 0).mono (show 0 + 3 ≤ n + 4 by omega)) hr rfl takes_cx (pa_arEx (pe_rdz (i := 3) rfl (.inl rfl) rfl rfl) (pa_arEx (pe_rdz (i := 2) rfl (.inl rfl) rfl rfl) pa_arNil rfl) rfl) rfl rfl rfl)) sc_carried.nd rfl (.inr rfl) rfl (.inl rfl) (show 4 ∉ keptOf 0 [true, true, true] by decide)) (pss_consS (ps_asgS (e_zT (c_own (tks := [none]) ((ok_ends_of T 0).mono (show 0 + 1 ≤ n + 4 by omega)) hr rfl takes_cx (pa_arEx (pe_rdz (i := 3) rfl (.inl rfl) rfl rfl) pa_arNil rfl) rfl rfl rfl)) (pg_t rfl (pgs_consD (pg_n (i := 5) sc_carried.nd rfl (.inr rfl) (.inl rfl) (show 5 ∉ keptOf 0 [true, true, true] by decide)) (pgs_consD (pg_n (i := 6) sc_carried.nd rfl (.inl rfl) (.inl rfl) (show 6 ∉ keptOf 0 [true, true, true] by decide)) pgs_nilD rfl) rfl) rfl rfl) rfl rfl rfl) (pss_consS (ps_ifS (t_cmpA (op_notInAll (hu65 hr)) opNotIn (pe_atv (pe_seeN (i := 5) rfl (.inr (.inl rfl)) rfl rfl)) (pe_seeN (i := 4) rfl (.inr (.inl rfl)) rfl rfl) rfl) (pss_consS (ps_retS (e_kT pe_non fun _ => .non)) pss_nilS) pss_nilS) (pss_consS (ps_setS (i := 7) (e_fzM (c_own (tks := [none]) ((ok_rising T 0).mono (show 0 + 1 ≤ n + 4 by omega)) hr rfl takes_cx (pa_arEx (pe_rdz (i := 0) rfl (.inl rfl) rfl rfl) pa_arNil rfl) rfl rfl rfl)) sc_carried.nd rfl (.inl rfl) rfl (.inl rfl) (show 7 ∉ keptOf 0 [true, true, true] by decide)) (pss_consS (ps_setS (i := 8) (pe_lstM pa_arNil) sc_carried.nd rfl (.inl rfl) rfl (.inl rfl) (show 8 ∉ keptOf 0 [true, true, true] by decide)) (pss_consS (ps_whileT passes_cx (pt_frm (by decide) (t_cmpA (op_neD (hu64 hr)) opNe (pe_atv (pe_seeN (i := 5) rfl (.inr (.inl rfl)) rfl rfl)) (pe_seeN (i := 6) rfl (.inl rfl) rfl rfl) (nomark _))) (pss_consT (ps_frm (by decide) (ps_setCompKT (j := 9) (p := []) (own := [("stage", 10)]) (put := (Tg.n 10).put) rfl sc_carried.nd rfl rfl (sw_true rfl rfl rfl (by decide +kernel)) (p_name rfl (.inr (.inl rfl)) rfl rfl) (blkOk_by (N := ["start", "goal", "slip", "kinds", "found", "here", "end", "boat", "plan", "ways", "stage"]) (sc := defScope s_carried) (by decide +kernel)) (fun _ _ _ _ _ => (pg_n (i := 10) sc_carried.nd rfl (.inl rfl) (.inr rfl) (show 10 ∉ others 11 [10] by decide))) (fun _ _ _ _ _ => (pts_oneB (PW.pt (pw_andB (t_cmpZ (op_eqD (hu64 hr)) opEq (e_zT (e_ixA (hu1 hr) (pe_atv (pe_seeN (i := 4) rfl (.inr (.inl rfl)) rfl rfl)) (pe_seeN (i := 10) rfl (.inl rfl) rfl rfl) (fun _ _ => rfl))) (pe_zv (e_zT (e_binA op_sub opSub (pe_zv (e_zT (e_ixA (hu1 hr) (pe_atv (pe_seeN (i := 4) rfl (.inr (.inl rfl)) rfl rfl)) (pe_seeN (i := 5) rfl (.inr (.inl rfl)) rfl rfl) (fun _ _ => rfl)))) (e_kA pe_int fun _ => .int _)))) (nomark _)) (w_and1 (t_plain (c_own (tks := [none, none]) ((ok_near T 0).mono (show 0 + 2 ≤ n + 4 by omega)) hr rfl takes0 (pa_arEx (pe_rdz (i := 5) rfl (.inr (.inl rfl)) rfl rfl) (pa_arEx (pe_rdz (i := 10) rfl (.inl rfl) rfl rfl) pa_arNil rfl) rfl) rfl rfl rfl) rfl)))))) (fun _ _ _ _ _ => (e_zT (pe_rdz (i := 10) rfl (.inl rfl) rfl rfl))) (fun _ => rfl) (put_length _) (show 9 ∉ 8 :: 7 :: keptOf 0 [true, true, true] by decide)) (fun k hk => .tail _ (.tail _ hk)) (.head _) (.tail _ (.head _))) (pss_consT (ps_frm (by decide) (ps_setS (i := 5) (c_minT rfl (hu65 hr) T.z_min rfl (pe_atv (pe_seeN (i := 9) rfl (.inl rfl) rfl rfl)) rfl) sc_carried.nd rfl (.inr rfl) rfl (.inl rfl) (show 5 ∉ 8 :: 7 :: keptOf 0 [true, true, true] by decide)) (fun k hk => .tail _ (.tail _ hk)) (.head _) (.tail _ (.head _))) (pss_consT (ps_tieSet (b := 7) (c_own (tks := [none, none, none]) ((ok_refitted T 0).mono (show 0 + 3 ≤ n + 4 by omega)) hr rfl takes_cx (pa_arEx (pe_rdz (i := 7) rfl (.inl rfl) rfl rfl) (pa_arEx (pe_rdz (i := 3) rfl (.inl rfl) rfl rfl) (pa_arEx (pe_rdz (i := 5) rfl (.inr (.inl rfl)) rfl rfl) pa_arNil rfl) rfl) rfl) rfl rfl rfl) sc_carried.nd rfl (.inl rfl) rfl (.inl rfl) (show 7 ∉ keptOf 0 [true, true, true] by decide)) (pss_consT (ps_tieApp (p := 8) (b := 7) (by decide) rfl (.inl rfl) rfl rfl rfl (.inl rfl) rfl rfl rfl rfl) pss_nilT))))) (pss_consS (ps_retS (pe_mv (i := 8) rfl (.inl rfl) rfl rfl)) pss_nilS))))))))
abbrev s_law_begin : Stmt := topS 25
theorem sc_law_begin : FnScope ["_law_script"] ["_law_script"] (defScope s_law_begin) := ⟨rfl, rfl, rfl, by decide +kernel, rfl, by decide +kernel, by decide +kernel⟩
def b_law_begin : S := (sq (retS (lstM (argEx (un1 oList (zT (slM (zT (rdz 0)) none (some (zT (kT (.int 63))))))) (argEx (kT (.int 0)) (argEx (kT (.int 0)) (argEx (kT (.int 17)) (M.ret []))))))) RS.nx)
def m_law_begin : List T → R T := bodyR 0 [true] b_law_begin
theorem ok_law_begin (T : Tx K mg) (n : Nat) : Callee P w K mg base (n + 1) "_law_begin" ["_law_script"] m_law_begin := callee_of (m := b_law_begin) (ex := 0) (kp := [true]) (by decide) T.d_law_begin sc_law_begin rfl fun f cdv A outer s H E hr => (pss_consS (ps_retS (pe_lstM (pa_arEx (c_list rfl T.z_list rfl (pe_zv (e_zT (pe_slM (e_zT (pe_rdz (i := 0) rfl (.inl rfl) rfl rfl)) po_noneM (po_someM (e_zT (e_kT pe_int fun _ => .int _)))))) rfl) (pa_arEx (e_kT pe_int fun _ => .int _) (pa_arEx (e_kT pe_int fun _ => .int _) (pa_arEx (e_kT pe_int fun _ => .int _) pa_arNil rfl) rfl) rfl) rfl))) pss_nilS)
abbrev s_law_take : Stmt := topS 26
theorem sc_law_take : FnScope ["_law_draw", "_law_many", "_law_cell", "_law_got"] ["_law_draw", "_law_many"] (defScope s_law_take) := ⟨rfl, rfl, rfl, by decide +kernel, rfl, by decide +kernel, by decide +kernel⟩
def b_law_take : S := (sq (ifS (lendB (andB (tsB (binA oLt (zT (binA oIx (see (seeN 0)) (kA (.int 2)))) (seeN 1))) (tsB (binZ oLt (zT (binA oIx (see (seeN 0)) (kA (.int 1)))) (zT (un1 oLen (zT (binA oIx (see (seeN 0)) (kA (.int 0)))))))))) (sq (setS 2 (fzM (lendM (binZ oIx (zT (binA oIx (see (seeN 0)) (kA (.int 0)))) (zT (binA oIx (see (seeN 0)) (kA (.int 1)))))))) (sq (stM 0 (zT (kT (.int 1))) (lendM (binA oAdd (zT (binA oIx (see (seeN 0)) (kA (.int 1)))) (kA (.int 1))))) (sq (stM 0 (zT (kT (.int 2))) (kT (.int 0))) (sq (ifS (tsB (binZ oGe (zT (un1 oAbs (see (seeN 2)))) (zT (binA oPow (see (kA (.int 10))) (kA (.int 18)))))) (sq (stM 0 (zT (kT (.int 2))) (un1 oAbs (see (seeN 2)))) RS.nx) (sq (stM 0 (zT (kT (.int 3))) (lendM (binA oMod (zT (binA oAdd (zT (binZ oAdd (zT (binA oMul (zT (binA oIx (see (seeN 0)) (kA (.int 3)))) (kA (.int 48271)))) (zT (binA oMul (zT (binA oMod (see (seeN 2)) (kA (.int 2147483629)))) (kA (.int 69621)))))) (kA (.int 12345)))) (kA (.int 2147483647))))) RS.nx)) RS.nx)))) RS.nx) (sq (ifS (lendB (tsB (binA oGe (zT (binA oIx (see (seeN 0)) (kA (.int 2)))) (seeN 1)))) (sq (setS 3 (lendM (binA oMod (zT (binA oIx (see (seeN 0)) (kA (.int 2)))) (seeN 1)))) (sq (stM 0 (zT (kT (.int 2))) (lendM (binA oDiv (zT (binA oIx (see (seeN 0)) (kA (.int 2)))) (seeN 1)))) (sq (retS (rdz 3)) RS.nx))) RS.nx) (sq (stM 0 (zT (kT (.int 3))) (lendM (binA oMod (zT (binA oAdd (zT (binA oMul (zT (binA oIx (see (seeN 0)) (kA (.int 3)))) (kA (.int 16807)))) (kA (.int 2531011)))) (kA (.int 2147483647))))) (sq (retS (lendM (binA oMod (zT (binA oDiv (zT (binA oIx (see (seeN 0)) (kA (.int 3)))) (kA (.int 64)))) (seeN 1)))) RS.nx))))
def m_law_take : List T → R T := bodyR 2 [true, true] b_law_take
theorem ok_law_take (T : Tx K mg) (n : Nat) : Callee P w K mg base (n + 1) "_law_take" ["_law_draw", "_law_many"] m_law_take := callee_of (m := b_law_take) (ex := 2) (kp := [true, true]) (by decide) T.d_law_take sc_law_take rfl fun f cdv A outer s H E hr => (pss_consS (ps_ifS (pt_lend (PW.pt (pw_andB (t_cmpA (op_ltAll (hu64 hr)) opLt (pe_zv (e_zT (e_ixA (hu1 hr) (pe_atv (pe_seeN (i := 0) rfl (.inl rfl) rfl rfl)) (e_kA pe_int fun _ => .int _) (fun _ _ => rfl)))) (pe_seeN (i := 1) rfl (.inl rfl) rfl rfl) (nomark _)) (w_and1 (t_cmpZ (op_ltAll (hu64 hr)) opLt (e_zT (e_ixA (hu1 hr) (pe_atv (pe_seeN (i := 0) rfl (.inl rfl) rfl rfl)) (e_kA pe_int fun _ => .int _) (fun _ _ => rfl))) (pe_zv (e_zT (c_len T.z_len rfl (pe_zv (e_zT (e_ixA (hu1 hr) (pe_atv (pe_seeN (i := 0) rfl (.inl rfl) rfl rfl)) (e_kA pe_int fun _ => .int _) (fun _ _ => rfl)))) rfl))) (nomark _)))))) (pss_consS (ps_setS (i := 2) (e_fzM (pe_lend (e_ixZ (hu1 hr) (e_zT (e_ixA (hu1 hr) (pe_atv (pe_seeN (i := 0) rfl (.inl rfl) rfl rfl)) (e_kA pe_int fun _ => .int _) (fun _ _ => rfl))) (pe_zv (e_zT (e_ixA (hu1 hr) (pe_atv (pe_seeN (i := 0) rfl (.inl rfl) rfl rfl)) (e_kA pe_int fun _ => .int _) (fun _ _ => rfl)))) (fun _ _ => rfl)))) sc_law_take.nd rfl (.inl rfl) rfl (.inl rfl) (show 2 ∉ keptOf 0 [true, true] by decide)) (pss_consS (ps_stM (i := 0) (hu1 hr) rfl (.inl rfl) rfl rfl (pe_lend (e_binA op_addAll opAdd (pe_zv (e_zT (e_ixA (hu1 hr) (pe_atv (pe_seeN (i := 0) rfl (.inl rfl) rfl rfl)) (e_kA pe_int fun _ => .int _) (fun _ _ => rfl)))) (e_kA pe_int fun _ => .int _))) (e_zT (e_kT pe_int fun _ => .int _)) rfl rfl (fun _ => rfl)) (pss_consS (ps_stM (i := 0) (hu1 hr) rfl (.inl rfl) rfl rfl (e_kT pe_int fun _ => .int _) (e_zT (e_kT pe_int fun _ => .int _)) rfl rfl (fun _ => rfl)) (pss_consS (ps_ifS (t_cmpZ op_ge opGe (e_zT (c_abs T.z_abs rfl (pe_atv (pe_seeN (i := 2) rfl (.inl rfl) rfl rfl)) rfl)) (pe_zv (e_zT (e_binA op_pow opPow (pe_atv (e_kA pe_int fun _ => .int _)) (e_kA pe_int fun _ => .int _)))) (nomark _)) (pss_consS (ps_stM (i := 0) (hu1 hr) rfl (.inl rfl) rfl rfl (c_abs T.z_abs rfl (pe_atv (pe_seeN (i := 2) rfl (.inl rfl) rfl rfl)) rfl) (e_zT (e_kT pe_int fun _ => .int _)) rfl rfl (fun _ => rfl)) pss_nilS) (pss_consS (ps_stM (i := 0) (hu1 hr) rfl (.inl rfl) rfl rfl (pe_lend (e_binA op_mod opMod (pe_zv (e_zT (e_binA op_addAll opAdd (pe_zv (e_zT (e_binZ op_addAll opAdd (e_zT (e_binA op_mulAll opMul (pe_zv (e_zT (e_ixA (hu1 hr) (pe_atv (pe_seeN (i := 0) rfl (.inl rfl) rfl rfl)) (e_kA pe_int fun _ => .int _) (fun _ _ => rfl)))) (e_kA pe_int fun _ => .int _))) (pe_zv (e_zT (e_binA op_mulAll opMul (pe_zv (e_zT (e_binA op_mod opMod (pe_atv (pe_seeN (i := 2) rfl (.inl rfl) rfl rfl)) (e_kA pe_int fun _ => .int _)))) (e_kA pe_int fun _ => .int _))))))) (e_kA pe_int fun _ => .int _)))) (e_kA pe_int fun _ => .int _))) (e_zT (e_kT pe_int fun _ => .int _)) rfl rfl (fun _ => rfl)) pss_nilS)) pss_nilS)))) pss_nilS) (pss_consS (ps_ifS (pt_lend (t_cmpA op_ge opGe (pe_zv (e_zT (e_ixA (hu1 hr) (pe_atv (pe_seeN (i := 0) rfl (.inl rfl) rfl rfl)) (e_kA pe_int fun _ => .int _) (fun _ _ => rfl)))) (pe_seeN (i := 1) rfl (.inl rfl) rfl rfl) (nomark _))) (pss_consS (ps_setS (i := 3) (pe_lend (e_binA op_mod opMod (pe_zv (e_zT (e_ixA (hu1 hr) (pe_atv (pe_seeN (i := 0) rfl (.inl rfl) rfl rfl)) (e_kA pe_int fun _ => .int _) (fun _ _ => rfl)))) (pe_seeN (i := 1) rfl (.inl rfl) rfl rfl))) sc_law_take.nd rfl (.inl rfl) rfl (.inl rfl) (show 3 ∉ keptOf 0 [true, true] by decide)) (pss_consS (ps_stM (i := 0) (hu1 hr) rfl (.inl rfl) rfl rfl (pe_lend (e_binA op_fdivW opDiv (pe_zv (e_zT (e_ixA (hu1 hr) (pe_atv (pe_seeN (i := 0) rfl (.inl rfl) rfl rfl)) (e_kA pe_int fun _ => .int _) (fun _ _ => rfl)))) (pe_seeN (i := 1) rfl (.inl rfl) rfl rfl))) (e_zT (e_kT pe_int fun _ => .int _)) rfl rfl (fun _ => rfl)) (pss_consS (ps_retS (pe_rdz (i := 3) rfl (.inl rfl) rfl rfl)) pss_nilS))) pss_nilS) (pss_consS (ps_stM (i := 0) (hu1 hr) rfl (.inl rfl) rfl rfl (pe_lend (e_binA op_mod opMod (pe_zv (e_zT (e_binA op_addAll opAdd (pe_zv (e_zT (e_binA op_mulAll opMul (pe_zv (e_zT (e_ixA (hu1 hr) (pe_atv (pe_seeN (i := 0) rfl (.inl rfl) rfl rfl)) (e_kA pe_int fun _ => .int _) (fun _ _ => rfl)))) (e_kA pe_int fun _ => .int _)))) (e_kA pe_int fun _ => .int _)))) (e_kA pe_int fun _ => .int _))) (e_zT (e_kT pe_int fun _ => .int _)) rfl rfl (fun _ => rfl)) (pss_consS (ps_retS (pe_lend (e_binA op_mod opMod (pe_zv (e_zT (e_binA op_fdivW opDiv (pe_zv (e_zT (e_ixA (hu1 hr) (pe_atv (pe_seeN (i := 0) rfl (.inl rfl) rfl rfl)) (e_kA pe_int fun _ => .int _) (fun _ _ => rfl)))) (e_kA pe_int fun _ => .int _)))) (pe_seeN (i := 1) rfl (.inl rfl) rfl rfl)))) pss_nilS))))
abbrev s_law_same : Stmt := topS 27
theorem sc_law_same : FnScope ["_law_found", "_law_due", "_law_one", "_law_other"] ["_law_found", "_law_due"] (defScope s_law_same) := ⟨rfl, rfl, rfl, by decide +kernel, rfl, by decide +kernel, by decide +kernel⟩
def m_law_same : Nat → List T → R T
  | 0 => fun _ => .bad
  | fu + 1 => bodyR 2 [true, true] ((sq (ifS (tsB (isi2M "list" "tuple" (see (seeN 1)))) (sq (ifS (orB (tsB (binZ oNe (zT (isiM "list" (see (seeN 0)))) (zT (isiM "list" (see (seeN 1)))))) (tsB (binZ oNe (zT (isiM "tuple" (see (seeN 0)))) (zT (isiM "tuple" (see (seeN 1))))))) (sq (retS (kT (.bl false))) RS.nx) RS.nx) (sq (retS (andV (binZ oEq (zT (un1 oLen (see (seeN 0)))) (zT (un1 oLen (see (seeN 1))))) (un1 oAll (zT (compM (it2M zip2 (zT (rdz 0)) (zT (rdz 1))) [2, 3] (Tg.t [(Tg.n 2), (Tg.n 3)]).put (M.ret true) (zT (callM (m_law_same fu) [none, none] (argEx (rdz 2) (argEx (rdz 3) (M.ret [])))))))))) RS.nx)) RS.nx) (sq (ifS (isNB (see (seeN 1))) (sq (retS (isN (see (seeN 0)))) RS.nx) RS.nx) (sq (ifS (orB (tsB (binZ oNe (zT (isiM "bool" (see (seeN 0)))) (zT (isiM "bool" (see (seeN 1)))))) (tsB (binZ oNe (zT (isiM "str" (see (seeN 0)))) (zT (isiM "str" (see (seeN 1))))))) (sq (retS (kT (.bl false))) RS.nx) RS.nx) (sq (retS (andV (binZ oEq (zT (isiM "int" (see (seeN 0)))) (zT (isiM "int" (see (seeN 1))))) (binA oEq (see (seeN 0)) (seeN 1)))) RS.nx)))))
theorem ok_law_same (T : Tx K mg) : ∀ n : Nat, Callee P w K mg base (n + 1) "_law_same" ["_law_found", "_law_due"] (m_law_same n)
  | 0 => callee_zero T.d_law_same
  | n + 1 => callee_of (m := (sq (ifS (tsB (isi2M "list" "tuple" (see (seeN 1)))) (sq (ifS (orB (tsB (binZ oNe (zT (isiM "list" (see (seeN 0)))) (zT (isiM "list" (see (seeN 1)))))) (tsB (binZ oNe (zT (isiM "tuple" (see (seeN 0)))) (zT (isiM "tuple" (see (seeN 1))))))) (sq (retS (kT (.bl false))) RS.nx) RS.nx) (sq (retS (andV (binZ oEq (zT (un1 oLen (see (seeN 0)))) (zT (un1 oLen (see (seeN 1))))) (un1 oAll (zT (compM (it2M zip2 (zT (rdz 0)) (zT (rdz 1))) [2, 3] (Tg.t [(Tg.n 2), (Tg.n 3)]).put (M.ret true) (zT (callM (m_law_same n) [none, none] (argEx (rdz 2) (argEx (rdz 3) (M.ret [])))))))))) RS.nx)) RS.nx) (sq (ifS (isNB (see (seeN 1))) (sq (retS (isN (see (seeN 0)))) RS.nx) RS.nx) (sq (ifS (orB (tsB (binZ oNe (zT (isiM "bool" (see (seeN 0)))) (zT (isiM "bool" (see (seeN 1)))))) (tsB (binZ oNe (zT (isiM "str" (see (seeN 0)))) (zT (isiM "str" (see (seeN 1))))))) (sq (retS (kT (.bl false))) RS.nx) RS.nx) (sq (retS (andV (binZ oEq (zT (isiM "int" (see (seeN 0)))) (zT (isiM "int" (see (seeN 1))))) (binA oEq (see (seeN 0)) (seeN 1)))) RS.nx))))) (ex := 2) (kp := [true, true]) (by decide) T.d_law_same sc_law_same rfl fun f cdv A outer s H E hr => (pss_consS (ps_ifS (t_plain (c_isi2 T.z_isinstance rfl T.z_list rfl boot_list (by decide) rfl T.z_tuple rfl boot_tuple (by decide) rfl (pe_atv (pe_seeN (i := 1) rfl (.inl rfl) rfl rfl)) rfl) rfl) (pss_consS (ps_ifS (PW.pt (pw_orB (t_cmpZ (op_neD (hu64 hr)) opNe (e_zT (c_isi T.z_isinstance rfl T.z_list rfl boot_list (by decide) rfl (pe_atv (pe_seeN (i := 0) rfl (.inl rfl) rfl rfl)) rfl)) (pe_zv (e_zT (c_isi T.z_isinstance rfl T.z_list rfl boot_list (by decide) rfl (pe_atv (pe_seeN (i := 1) rfl (.inl rfl) rfl rfl)) rfl))) (nomark _)) (w_or1 (t_cmpZ (op_neD (hu64 hr)) opNe (e_zT (c_isi T.z_isinstance rfl T.z_tuple rfl boot_tuple (by decide) rfl (pe_atv (pe_seeN (i := 0) rfl (.inl rfl) rfl rfl)) rfl)) (pe_zv (e_zT (c_isi T.z_isinstance rfl T.z_tuple rfl boot_tuple (by decide) rfl (pe_atv (pe_seeN (i := 1) rfl (.inl rfl) rfl rfl)) rfl))) (nomark _))))) (pss_consS (ps_retS (e_kT pe_bl fun _ => .bl _)) pss_nilS) pss_nilS) (pss_consS (ps_retS (pe_andV (e_cmpZ (op_eqD (hu64 hr)) opEq (e_zT (c_len T.z_len rfl (pe_atv (pe_seeN (i := 0) rfl (.inl rfl) rfl rfl)) rfl)) (pe_zv (e_zT (c_len T.z_len rfl (pe_atv (pe_seeN (i := 1) rfl (.inl rfl) rfl rfl)) rfl))) (nomark _)) (pe_one (c_all rfl T.z_all rfl (pe_zv (e_zT (pe_compM (own := [("_law_one", 2), ("_law_other", 3)]) (put := (Tg.t [(Tg.n 2), (Tg.n 3)]).put) rfl sc_law_same.nd (i_zip T.z_zip rfl (e_zT (pe_rdz (i := 0) rfl (.inl rfl) rfl rfl)) (e_zT (pe_rdz (i := 1) rfl (.inl rfl) rfl rfl)) rfl rfl) (blkOk_by (N := ["_law_found", "_law_due", "_law_one", "_law_other"]) (sc := defScope s_law_same) (by decide +kernel)) (fun _ _ _ _ _ => (pg_t rfl (pgs_consD (pg_n (i := 2) sc_law_same.nd rfl (.inl rfl) (.inr rfl) (show 2 ∉ others 4 [2, 3] by decide)) (pgs_consD (pg_n (i := 3) sc_law_same.nd rfl (.inl rfl) (.inr rfl) (show 3 ∉ others 4 [2, 3] by decide)) pgs_nilD rfl) rfl) rfl rfl)) (fun _ _ _ _ _ => pts_nilB) (fun _ _ _ _ _ => (e_zT (c_own (tks := [none, none]) (ok_law_same T n) hr rfl takes0 (pa_arEx (pe_rdz (i := 2) rfl (.inl rfl) rfl rfl) (pa_arEx (pe_rdz (i := 3) rfl (.inl rfl) rfl rfl) pa_arNil rfl) rfl) rfl rfl rfl))) (fun _ => rfl) (put_length _)))) rfl)))) pss_nilS)) pss_nilS) (pss_consS (ps_ifS (t_isN (pe_atv (pe_seeN (i := 1) rfl (.inl rfl) rfl rfl))) (pss_consS (ps_retS (e_isN (pe_atv (pe_seeN (i := 0) rfl (.inl rfl) rfl rfl)))) pss_nilS) pss_nilS) (pss_consS (ps_ifS (PW.pt (pw_orB (t_cmpZ (op_neD (hu64 hr)) opNe (e_zT (c_isi T.z_isinstance rfl T.z_bool rfl boot_bool (by decide) rfl (pe_atv (pe_seeN (i := 0) rfl (.inl rfl) rfl rfl)) rfl)) (pe_zv (e_zT (c_isi T.z_isinstance rfl T.z_bool rfl boot_bool (by decide) rfl (pe_atv (pe_seeN (i := 1) rfl (.inl rfl) rfl rfl)) rfl))) (nomark _)) (w_or1 (t_cmpZ (op_neD (hu64 hr)) opNe (e_zT (c_isi T.z_isinstance rfl T.z_str rfl boot_str (by decide) rfl (pe_atv (pe_seeN (i := 0) rfl (.inl rfl) rfl rfl)) rfl)) (pe_zv (e_zT (c_isi T.z_isinstance rfl T.z_str rfl boot_str (by decide) rfl (pe_atv (pe_seeN (i := 1) rfl (.inl rfl) rfl rfl)) rfl))) (nomark _))))) (pss_consS (ps_retS (e_kT pe_bl fun _ => .bl _)) pss_nilS) pss_nilS) (pss_consS (ps_retS (pe_andV (e_cmpZ (op_eqD (hu64 hr)) opEq (e_zT (c_isi T.z_isinstance rfl T.z_int rfl boot_int (by decide) rfl (pe_atv (pe_seeN (i := 0) rfl (.inl rfl) rfl rfl)) rfl)) (pe_zv (e_zT (c_isi T.z_isinstance rfl T.z_int rfl boot_int (by decide) rfl (pe_atv (pe_seeN (i := 1) rfl (.inl rfl) rfl rfl)) rfl))) (nomark _)) (pe_one (e_cmpA (op_eqD (hu64 hr)) opEq (pe_atv (pe_seeN (i := 0) rfl (.inl rfl) rfl rfl)) (pe_seeN (i := 1) rfl (.inl rfl) rfl rfl) (nomark _))))) pss_nilS))))
abbrev s_law_set : Stmt := topS 28
theorem sc_law_set : FnScope ["_law_timbers"] ["_law_timbers"] (defScope s_law_set) := ⟨rfl, rfl, rfl, by decide +kernel, rfl, by decide +kernel, by decide +kernel⟩
def b_law_set : S := (sq (retS (un1 oSorted (zT (un1 oSet (see (seeN 0)))))) RS.nx)
def m_law_set : List T → R T := bodyR 0 [true] b_law_set
theorem ok_law_set (T : Tx K mg) (n : Nat) : Callee P w K mg base (n + 1) "_law_set" ["_law_timbers"] m_law_set := callee_of (m := b_law_set) (ex := 0) (kp := [true]) (by decide) T.d_law_set sc_law_set rfl fun f cdv A outer s H E hr => (pss_consS (ps_retS (c_sorted rfl T.z_sorted rfl (pe_zv (e_zT (c_set rfl T.z_set rfl (pe_atv (pe_seeN (i := 0) rfl (.inl rfl) rfl rfl)) rfl))) rfl)) pss_nilS)
abbrev s_law_like : Stmt := topS 29
theorem sc_law_like : FnScope ["_law_one", "_law_other", "_law_both", "_law_timber"] ["_law_one", "_law_other"] (defScope s_law_like) := ⟨rfl, rfl, rfl, by decide +kernel, rfl, by decide +kernel, by decide +kernel⟩
def b_law_like : S := (sq (setS 2 (un1 oLen (zT (compM (itM itemsOf (zT (callM m_law_set [none] (argEx (rdz 0) (M.ret []))))) [3] (Tg.n 3).put (tsB (binA oIn (see (seeN 3)) (seeN 1))) (zT (rdz 3)))))) (sq (retS (andV (binZ oGt (zT (binA oMul (see (kA (.int 2))) (seeN 2))) (zT (un1 oLen (zT (un1 oSet (see (seeN 0))))))) (binZ oGt (zT (binA oMul (see (kA (.int 2))) (seeN 2))) (zT (un1 oLen (zT (un1 oSet (see (seeN 1))))))))) RS.nx))
def m_law_like : List T → R T := bodyR 2 [true, true] b_law_like
theorem ok_law_like (T : Tx K mg) (n : Nat) : Callee P w K mg base (n + 2) "_law_like" ["_law_one", "_law_other"] m_law_like := callee_of (m := b_law_like) (ex := 2) (kp := [true, true]) (by decide) T.d_law_like sc_law_like rfl fun f cdv A outer s H E hr => (pss_consS (ps_setS (i := 2) (c_len T.z_len rfl (pe_zv (e_zT (pe_compM (own := [("_law_timber", 3)]) (put := (Tg.n 3).put) rfl sc_law_like.nd (i_seq (e_zT (c_own (tks := [none]) ((ok_law_set T 0).mono (show 0 + 1 ≤ n + 1 by omega)) hr rfl takes_cx (pa_arEx (pe_rdz (i := 0) rfl (.inl rfl) rfl rfl) pa_arNil rfl) rfl rfl rfl))) (blkOk_by (N := ["_law_one", "_law_other", "_law_both", "_law_timber"]) (sc := defScope s_law_like) (by decide +kernel)) (fun _ _ _ _ _ => (pg_n (i := 3) sc_law_like.nd rfl (.inl rfl) (.inr rfl) (show 3 ∉ others 4 [3] by decide))) (fun _ _ _ _ _ => (pts_oneB (t_cmpA (op_inAll (hu65 hr)) opIn (pe_atv (pe_seeN (i := 3) rfl (.inl rfl) rfl rfl)) (pe_seeN (i := 1) rfl (.inr (.inl rfl)) rfl rfl) rfl))) (fun _ _ _ _ _ => (e_zT (pe_rdz (i := 3) rfl (.inl rfl) rfl rfl))) (fun _ => rfl) (put_length _)))) rfl) sc_law_like.nd rfl (.inl rfl) rfl (.inl rfl) (show 2 ∉ keptOf 0 [true, true] by decide)) (pss_consS (ps_retS (pe_andV (e_cmpZ op_gt opGt (e_zT (e_binA op_mulAll opMul (pe_atv (e_kA pe_int fun _ => .int _)) (pe_seeN (i := 2) rfl (.inl rfl) rfl rfl))) (pe_zv (e_zT (c_len T.z_len rfl (pe_zv (e_zT (c_set rfl T.z_set rfl (pe_atv (pe_seeN (i := 0) rfl (.inl rfl) rfl rfl)) rfl))) rfl))) (nomark _)) (pe_one (e_cmpZ op_gt opGt (e_zT (e_binA op_mulAll opMul (pe_atv (e_kA pe_int fun _ => .int _)) (pe_seeN (i := 2) rfl (.inl rfl) rfl rfl))) (pe_zv (e_zT (c_len T.z_len rfl (pe_zv (e_zT (c_set rfl T.z_set rfl (pe_atv (pe_seeN (i := 1) rfl (.inr (.inl rfl)) rfl rfl)) rfl))) rfl))) (nomark _))))) pss_nilS))
abbrev s_law_some : Stmt := topS 30
theorem sc_law_some : FnScope ["_law_draw", "_law_pool", "_law_many", "_law_left", "_law_found", "_law_k"] ["_law_draw", "_law_pool", "_law_many"] (defScope s_law_some) := ⟨rfl, rfl, rfl, by decide +kernel, rfl, by decide +kernel, by decide +kernel⟩
def b_law_some : S := (sq (setS 3 (un1 oList (see (seeN 1)))) (sq (setS 4 (lstM (M.ret []))) (sq (forS (itM rng1 (zT (lendM (binZ oMin2 (zT (rdz 2)) (zT (un1 oLen (see (seeN 3)))))))) (Tg.n 5).put (sq (exprS (appM 4 (popM 3 (zT (callM m_law_take [some 0, none] (argTk 0 (argEx (fzM (lendM (un1 oLen (see (seeN 3))))) (M.ret [])))))))) RS.nx)) (sq (retS (mv 4)) RS.nx))))
def m_law_some : List T → R T := bodyR 3 [true, true, true] b_law_some
theorem ok_law_some (T : Tx K mg) (n : Nat) : Callee P w K mg base (n + 2) "_law_some" ["_law_draw", "_law_pool", "_law_many"] m_law_some := callee_of (m := b_law_some) (ex := 3) (kp := [true, true, true]) (by decide) T.d_law_some sc_law_some rfl fun f cdv A outer s H E hr => (pss_consS (ps_setS (i := 3) (c_list rfl T.z_list rfl (pe_atv (pe_seeN (i := 1) rfl (.inl rfl) rfl rfl)) rfl) sc_law_some.nd rfl (.inl rfl) rfl (.inl rfl) (show 3 ∉ keptOf 0 [true, true, true] by decide)) (pss_consS (ps_setS (i := 4) (pe_lstM pa_arNil) sc_law_some.nd rfl (.inl rfl) rfl (.inl rfl) (show 4 ∉ keptOf 0 [true, true, true] by decide)) (pss_consS (ps_forS passes_cx rfl (i_rng1 T.z_range rfl (pe_zv (e_zT (pe_lend (c_minZ rfl T.z_min rfl (e_zT (pe_rdz (i := 2) rfl (.inl rfl) rfl rfl)) (pe_zv (e_zT (c_len T.z_len rfl (pe_atv (pe_seeN (i := 3) rfl (.inl rfl) rfl rfl)) rfl))) rfl rfl)))) rfl) (pg_n (i := 5) sc_law_some.nd rfl (.inl rfl) (.inl rfl) (show 5 ∉ keptOf 0 [true, true, true] by decide)) (pss_consS (ps_exprS (pe_appM (i := 4) rfl (.inl rfl) rfl rfl (pe_popM (i := 3) rfl (.inl rfl) rfl rfl (e_zT (c_own (tks := [some 0, none]) ((ok_law_take T 0).mono (show 0 + 1 ≤ n + 1 by omega)) hr rfl takes_cx (pa_arTk (i := 0) rfl (.inl rfl) rfl rfl (pa_arEx (e_fzM (pe_lend (c_len T.z_len rfl (pe_atv (pe_seeN (i := 3) rfl (.inl rfl) rfl rfl)) rfl))) pa_arNil rfl)) rfl rfl rfl)) rfl rfl) rfl rfl) rfl) pss_nilS) (fun _ => rfl)) (pss_consS (ps_retS (pe_mv (i := 4) rfl (.inl rfl) rfl rfl)) pss_nilS))))
abbrev s_law_slip : Stmt := topS 31
theorem sc_law_slip : FnScope ["_law_draw"] ["_law_draw"] (defScope s_law_slip) := ⟨rfl, rfl, rfl, by decide +kernel, rfl, by decide +kernel, by decide +kernel⟩
def b_law_slip : S := (sq (retS (binZ oIx (zT (tupM (argEx (binZ oAdd (zT (kT (.int 1))) (zT (callM m_law_take [some 0, none] (argTk 0 (argEx (kT (.int 12)) (M.ret [])))))) (argEx (binZ oAdd (zT (kT (.int 3))) (zT (callM m_law_take [some 0, none] (argTk 0 (argEx (kT (.int 4)) (M.ret [])))))) (argEx (kT (.int 12)) (M.ret [])))))) (zT (callM m_law_take [some 0, none] (argTk 0 (argEx (kT (.int 3)) (M.ret []))))))) RS.nx)
def m_law_slip : List T → R T := bodyR 0 [true] b_law_slip
theorem ok_law_slip (T : Tx K mg) (n : Nat) : Callee P w K mg base (n + 2) "_law_slip" ["_law_draw"] m_law_slip := callee_of (m := b_law_slip) (ex := 0) (kp := [true]) (by decide) T.d_law_slip sc_law_slip rfl fun f cdv A outer s H E hr => (pss_consS (ps_retS (e_ixZ (hu1 hr) (e_zT (pe_tupM (pa_arEx (e_binZ op_addAll opAdd (e_zT (e_kT pe_int fun _ => .int _)) (pe_zv (e_zT (c_own (tks := [some 0, none]) ((ok_law_take T 0).mono (show 0 + 1 ≤ n + 1 by omega)) hr rfl takes_cx (pa_arTk (i := 0) rfl (.inl rfl) rfl rfl (pa_arEx (e_kT pe_int fun _ => .int _) pa_arNil rfl)) rfl rfl rfl)))) (pa_arEx (e_binZ op_addAll opAdd (e_zT (e_kT pe_int fun _ => .int _)) (pe_zv (e_zT (c_own (tks := [some 0, none]) ((ok_law_take T 0).mono (show 0 + 1 ≤ n + 1 by omega)) hr rfl takes_cx (pa_arTk (i := 0) rfl (.inl rfl) rfl rfl (pa_arEx (e_kT pe_int fun _ => .int _) pa_arNil rfl)) rfl rfl rfl)))) (pa_arEx (e_kT pe_int fun _ => .int _) pa_arNil rfl) rfl) rfl))) (pe_zv (e_zT (c_own (tks := [some 0, none]) ((ok_law_take T 0).mono (show 0 + 1 ≤ n + 1 by omega)) hr rfl takes_cx (pa_arTk (i := 0) rfl (.inl rfl) rfl rfl (pa_arEx (e_kT pe_int fun _ => .int _) pa_arNil rfl)) rfl rfl rfl))) (fun _ _ => rfl))) pss_nilS)
abbrev s_law_ends : Stmt := topS 32
theorem sc_law_ends : FnScope ["_law_draw", "_law_slip_here", "_law_start", "_law_goal", "_law_fresh", "_law_new", "_law_timber"] ["_law_draw", "_law_slip_here"] (defScope s_law_ends) := ⟨rfl, rfl, rfl, by decide +kernel, rfl, by decide +kernel, by decide +kernel⟩
def b_law_ends : S := (sq (setS 2 (fzM (callM m_law_some [some 0, none, none] (argTk 0 (argEx (fzM (binZ oLR2 (zT (kT (.int 1))) (see (kA (.int 61))))) (argEx (fzM (binZ oAdd (zT (kT (.int 1))) (zT (callM m_law_take [some 0, none] (argTk 0 (argEx (rdz 1) (M.ret []))))))) (M.ret []))))))) (sq (setS 3 (fzM (callM m_law_some [some 0, none, none] (argTk 0 (argEx (rdz 2) (argEx (fzM (binZ oMul (zT (callM m_law_take [some 0, none] (argTk 0 (argEx (fzM (binA oAdd (zT (un1 oLen (see (seeN 2)))) (kA (.int 1)))) (M.ret []))))) (zT (un1 oInt (zT (binA oGt (zT (callM m_law_take [some 0, none] (argTk 0 (argEx (kT (.int 3)) (M.ret []))))) (kA (.int 0)))))))) (M.ret []))))))) (sq (setS 4 (compM (it2M rng2 (zT (kT (.int 1))) (see (kA (.int 61)))) [6] (Tg.n 6).put (tsB (binA oNotIn (see (seeN 6)) (seeN 2))) (zT (rdz 6)))) (sq (setS 5 (fzM (callM m_law_some [some 0, none, none] (argTk 0 (argEx (rdz 4) (argEx (fzM (callM m_law_take [some 0, none] (argTk 0 (argEx (fzM (binA oAdd (zT (binZ oSub (zT (rdz 1)) (zT (un1 oLen (see (seeN 3)))))) (kA (.int 1)))) (M.ret []))))) (M.ret []))))))) (sq (setS 3 (fzM (binA oAdd (see (seeN 3)) (seeN 5)))) (sq (ifS (tsB (binZ oEq (zT (rdz 3)) (zT (lstM (M.ret []))))) (sq (setS 3 (fzM (lstM (argEx (binA oIx (see (seeN 2)) (kA (.int 0))) (M.ret []))))) RS.nx) RS.nx) (sq (retS (tupM (argEx (rdz 2) (argEx (rdz 3) (M.ret []))))) RS.nx)))))))
def m_law_ends : List T → R T := bodyR 5 [true, true] b_law_ends
theorem ok_law_ends (T : Tx K mg) (n : Nat) : Callee P w K mg base (n + 3) "_law_ends" ["_law_draw", "_law_slip_here"] m_law_ends := callee_of (m := b_law_ends) (ex := 5) (kp := [true, true]) (by decide) T.d_law_ends sc_law_ends rfl fun f cdv A outer s H E hr => (pss_consS (ps_setS (i := 2) (e_fzM (c_own (tks := [some 0, none, none]) ((ok_law_some T 0).mono (show 0 + 2 ≤ n + 2 by omega)) hr rfl takes_cx (pa_arTk (i := 0) rfl (.inl rfl) rfl rfl (pa_arEx (e_fzM (e_listRg2 rfl T.z_list rfl T.z_range rfl (e_zT (e_kT pe_int fun _ => .int _)) (pe_atv (e_kA pe_int fun _ => .int _)) rfl rfl)) (pa_arEx (e_fzM (e_binZ op_addAll opAdd (e_zT (e_kT pe_int fun _ => .int _)) (pe_zv (e_zT (c_own (tks := [some 0, none]) ((ok_law_take T 0).mono (show 0 + 1 ≤ n + 2 by omega)) hr rfl takes_cx (pa_arTk (i := 0) rfl (.inl rfl) rfl rfl (pa_arEx (pe_rdz (i := 1) rfl (.inl rfl) rfl rfl) pa_arNil rfl)) rfl rfl rfl))))) pa_arNil rfl) rfl)) rfl rfl rfl)) sc_law_ends.nd rfl (.inr rfl) rfl (.inl rfl) (show 2 ∉ keptOf 0 [true, true] by decide)) (pss_consS (ps_setS (i := 3) (e_fzM (c_own (tks := [some 0, none, none]) ((ok_law_some T 0).mono (show 0 + 2 ≤ n + 2 by omega)) hr rfl takes_cx (pa_arTk (i := 0) rfl (.inl rfl) rfl rfl (pa_arEx (pe_rdz (i := 2) rfl (.inr (.inl rfl)) rfl rfl) (pa_arEx (e_fzM (e_binZ op_mulAll opMul (e_zT (c_own (tks := [some 0, none]) ((ok_law_take T 0).mono (show 0 + 1 ≤ n + 2 by omega)) hr rfl takes_cx (pa_arTk (i := 0) rfl (.inl rfl) rfl rfl (pa_arEx (e_fzM (e_binA op_addAll opAdd (pe_zv (e_zT (c_len T.z_len rfl (pe_atv (pe_seeN (i := 2) rfl (.inr (.inl rfl)) rfl rfl)) rfl))) (e_kA pe_int fun _ => .int _))) pa_arNil rfl)) rfl rfl rfl)) (pe_zv (e_zT (c_int T.z_int rfl (pe_zv (e_zT (e_cmpA op_gt opGt (pe_zv (e_zT (c_own (tks := [some 0, none]) ((ok_law_take T 0).mono (show 0 + 1 ≤ n + 2 by omega)) hr rfl takes_cx (pa_arTk (i := 0) rfl (.inl rfl) rfl rfl (pa_arEx (e_kT pe_int fun _ => .int _) pa_arNil rfl)) rfl rfl rfl))) (e_kA pe_int fun _ => .int _) (nomark _)))) rfl))))) pa_arNil rfl) rfl)) rfl rfl rfl)) sc_law_ends.nd rfl (.inl rfl) rfl (.inl rfl) (show 3 ∉ keptOf 0 [true, true] by decide)) (pss_consS (ps_setCompM (i := 4) (own := [("_law_timber", 6)]) (put := (Tg.n 6).put) rfl sc_law_ends.nd rfl rfl (sw_true rfl rfl rfl (by decide +kernel)) (i_rng2 T.z_range rfl (e_zT (e_kT pe_int fun _ => .int _)) (pe_atv (e_kA pe_int fun _ => .int _)) rfl rfl) (blkOk_by (N := ["_law_draw", "_law_slip_here", "_law_start", "_law_goal", "_law_fresh", "_law_new", "_law_timber"]) (sc := defScope s_law_ends) (by decide +kernel)) (fun _ _ _ _ _ => (pg_n (i := 6) sc_law_ends.nd rfl (.inl rfl) (.inr rfl) (show 6 ∉ others 7 [6] by decide))) (fun _ _ _ _ _ => (pts_oneB (t_cmpA (op_notInAll (hu65 hr)) opNotIn (pe_atv (pe_seeN (i := 6) rfl (.inl rfl) rfl rfl)) (pe_seeN (i := 2) rfl (.inr (.inl rfl)) rfl rfl) rfl))) (fun _ _ _ _ _ => (e_zT (pe_rdz (i := 6) rfl (.inl rfl) rfl rfl))) (fun _ => rfl) (put_length _) (show 4 ∉ keptOf 0 [true, true] by decide)) (pss_consS (ps_setS (i := 5) (e_fzM (c_own (tks := [some 0, none, none]) ((ok_law_some T 0).mono (show 0 + 2 ≤ n + 2 by omega)) hr rfl takes_cx (pa_arTk (i := 0) rfl (.inl rfl) rfl rfl (pa_arEx (pe_rdz (i := 4) rfl (.inl rfl) rfl rfl) (pa_arEx (e_fzM (c_own (tks := [some 0, none]) ((ok_law_take T 0).mono (show 0 + 1 ≤ n + 2 by omega)) hr rfl takes_cx (pa_arTk (i := 0) rfl (.inl rfl) rfl rfl (pa_arEx (e_fzM (e_binA op_addAll opAdd (pe_zv (e_zT (e_binZ op_sub opSub (e_zT (pe_rdz (i := 1) rfl (.inl rfl) rfl rfl)) (pe_zv (e_zT (c_len T.z_len rfl (pe_atv (pe_seeN (i := 3) rfl (.inl rfl) rfl rfl)) rfl)))))) (e_kA pe_int fun _ => .int _))) pa_arNil rfl)) rfl rfl rfl)) pa_arNil rfl) rfl)) rfl rfl rfl)) sc_law_ends.nd rfl (.inl rfl) rfl (.inl rfl) (show 5 ∉ keptOf 0 [true, true] by decide)) (pss_consS (ps_setS (i := 3) (e_fzM (e_binA op_addAll opAdd (pe_atv (pe_seeN (i := 3) rfl (.inl rfl) rfl rfl)) (pe_seeN (i := 5) rfl (.inl rfl) rfl rfl))) sc_law_ends.nd rfl (.inl rfl) rfl (.inl rfl) (show 3 ∉ keptOf 0 [true, true] by decide)) (pss_consS (ps_ifS (t_cmpZ (op_eqD (hu64 hr)) opEq (e_zT (pe_rdz (i := 3) rfl (.inl rfl) rfl rfl)) (pe_zv (e_zT (pe_lstM pa_arNil))) (nomark _)) (pss_consS (ps_setS (i := 3) (e_fzM (pe_lstM (pa_arEx (e_ixA (hu1 hr) (pe_atv (pe_seeN (i := 2) rfl (.inr (.inl rfl)) rfl rfl)) (e_kA pe_int fun _ => .int _) (fun _ _ => rfl)) pa_arNil rfl))) sc_law_ends.nd rfl (.inl rfl) rfl (.inl rfl) (show 3 ∉ keptOf 0 [true, true] by decide)) pss_nilS) pss_nilS) (pss_consS (ps_retS (pe_tupM (pa_arEx (pe_rdz (i := 2) rfl (.inr (.inl rfl)) rfl rfl) (pa_arEx (pe_rdz (i := 3) rfl (.inl rfl) rfl rfl) pa_arNil rfl) rfl))) pss_nilS)))))))
abbrev s_law_kinds : Stmt := topS 33
theorem sc_law_kinds : FnScope ["_law_start", "_law_goal", "_law_both", "_law_timber"] ["_law_start", "_law_goal"] (defScope s_law_kinds) := ⟨rfl, rfl, rfl, by decide +kernel, rfl, by decide +kernel, by decide +kernel⟩
def b_law_kinds : S := (sq (setS 2 (un1 oLen (zT (compM (itM itemsOf (zT (callM m_law_set [none] (argEx (rdz 0) (M.ret []))))) [3] (Tg.n 3).put (tsB (binA oIn (see (seeN 3)) (seeN 1))) (zT (rdz 3)))))) (sq (retS (tupM (argEx (binA oSub (zT (un1 oLen (zT (un1 oSet (see (seeN 0)))))) (seeN 2)) (argEx (rdz 2) (argEx (binA oSub (zT (un1 oLen (zT (un1 oSet (see (seeN 1)))))) (seeN 2)) (M.ret [])))))) RS.nx))
def m_law_kinds : List T → R T := bodyR 2 [true, true] b_law_kinds
theorem ok_law_kinds (T : Tx K mg) (n : Nat) : Callee P w K mg base (n + 2) "_law_kinds" ["_law_start", "_law_goal"] m_law_kinds := callee_of (m := b_law_kinds) (ex := 2) (kp := [true, true]) (by decide) T.d_law_kinds sc_law_kinds rfl fun f cdv A outer s H E hr => (pss_consS (ps_setS (i := 2) (c_len T.z_len rfl (pe_zv (e_zT (pe_compM (own := [("_law_timber", 3)]) (put := (Tg.n 3).put) rfl sc_law_kinds.nd (i_seq (e_zT (c_own (tks := [none]) ((ok_law_set T 0).mono (show 0 + 1 ≤ n + 1 by omega)) hr rfl takes_cx (pa_arEx (pe_rdz (i := 0) rfl (.inl rfl) rfl rfl) pa_arNil rfl) rfl rfl rfl))) (blkOk_by (N := ["_law_start", "_law_goal", "_law_both", "_law_timber"]) (sc := defScope s_law_kinds) (by decide +kernel)) (fun _ _ _ _ _ => (pg_n (i := 3) sc_law_kinds.nd rfl (.inl rfl) (.inr rfl) (show 3 ∉ others 4 [3] by decide))) (fun _ _ _ _ _ => (pts_oneB (t_cmpA (op_inAll (hu65 hr)) opIn (pe_atv (pe_seeN (i := 3) rfl (.inl rfl) rfl rfl)) (pe_seeN (i := 1) rfl (.inr (.inl rfl)) rfl rfl) rfl))) (fun _ _ _ _ _ => (e_zT (pe_rdz (i := 3) rfl (.inl rfl) rfl rfl))) (fun _ => rfl) (put_length _)))) rfl) sc_law_kinds.nd rfl (.inl rfl) rfl (.inl rfl) (show 2 ∉ keptOf 0 [true, true] by decide)) (pss_consS (ps_retS (pe_tupM (pa_arEx (e_binA op_sub opSub (pe_zv (e_zT (c_len T.z_len rfl (pe_zv (e_zT (c_set rfl T.z_set rfl (pe_atv (pe_seeN (i := 0) rfl (.inl rfl) rfl rfl)) rfl))) rfl))) (pe_seeN (i := 2) rfl (.inl rfl) rfl rfl)) (pa_arEx (pe_rdz (i := 2) rfl (.inl rfl) rfl rfl) (pa_arEx (e_binA op_sub opSub (pe_zv (e_zT (c_len T.z_len rfl (pe_zv (e_zT (c_set rfl T.z_set rfl (pe_atv (pe_seeN (i := 1) rfl (.inr (.inl rfl)) rfl rfl)) rfl))) rfl))) (pe_seeN (i := 2) rfl (.inl rfl) rfl rfl)) pa_arNil rfl) rfl) rfl))) pss_nilS))
def l0_law_stages : S := (sq (setS 2 (fzM (binZ oAdd (zT (rdz 2)) (zT (compM (itM rng1 (zT (binA oAdd (zT (binA oIx (see (seeN 0)) (kA (.int 2)))) (kA (.int 1))))) [6] (Tg.n 6).put (M.ret true) (zT (tupM (argEx (rdz 3) (argEx (rdz 4) (argEx (rdz 6) (M.ret []))))))))))) RS.nx)
def l1_law_stages : S := (sq (forS (itM rng1 (zT (binA oAdd (zT (binA oIx (see (seeN 0)) (kA (.int 1)))) (kA (.int 1))))) (Tg.n 4).put l0_law_stages) RS.nx)
abbrev s_law_stages : Stmt := topS 34
theorem sc_law_stages : FnScope ["_law_sorts", "_law_slip_here", "_law_found", "_law_alone", "_law_both", "_law_stage", "_law_wished"] ["_law_sorts", "_law_slip_here"] (defScope s_law_stages) := ⟨rfl, rfl, rfl, by decide +kernel, rfl, by decide +kernel, by decide +kernel⟩
def b_law_stages : S := (sq (setS 2 (fzM (lstM (M.ret [])))) (sq (forS (itM rng1 (zT (binA oAdd (zT (binA oIx (see (seeN 0)) (kA (.int 0)))) (kA (.int 1))))) (Tg.n 3).put l1_law_stages) (sq (retS (compM (itM itemsOf (zT (rdz 2))) [5] (Tg.n 5).put (chB oLe oLe (zT (kT (.int 1))) (zT (un1 oSum (see (seeN 5)))) (see (seeN 1))) (zT (rdz 5)))) RS.nx)))
def m_law_stages : List T → R T := bodyR 5 [true, true] b_law_stages
theorem ok_law_stages (T : Tx K mg) (n : Nat) : Callee P w K mg base (n + 1) "_law_stages" ["_law_sorts", "_law_slip_here"] m_law_stages := callee_of (m := b_law_stages) (ex := 5) (kp := [true, true]) (by decide) T.d_law_stages sc_law_stages rfl fun f cdv A outer s H E hr => (pss_consS (ps_setS (i := 2) (e_fzM (pe_lstM pa_arNil)) sc_law_stages.nd rfl (.inl rfl) rfl (.inl rfl) (show 2 ∉ keptOf 0 [true, true] by decide)) (pss_consS (ps_forS passes_cx rfl (i_rng1 T.z_range rfl (pe_zv (e_zT (e_binA op_addAll opAdd (pe_zv (e_zT (e_ixA (hu1 hr) (pe_atv (pe_seeN (i := 0) rfl (.inl rfl) rfl rfl)) (e_kA pe_int fun _ => .int _) (fun _ _ => rfl)))) (e_kA pe_int fun _ => .int _)))) rfl) (pg_n (i := 3) sc_law_stages.nd rfl (.inr rfl) (.inl rfl) (show 3 ∉ keptOf 0 [true, true] by decide)) (pss_consS (ps_forS passes_cx rfl (i_rng1 T.z_range rfl (pe_zv (e_zT (e_binA op_addAll opAdd (pe_zv (e_zT (e_ixA (hu1 hr) (pe_atv (pe_seeN (i := 0) rfl (.inl rfl) rfl rfl)) (e_kA pe_int fun _ => .int _) (fun _ _ => rfl)))) (e_kA pe_int fun _ => .int _)))) rfl) (pg_n (i := 4) sc_law_stages.nd rfl (.inr rfl) (.inl rfl) (show 4 ∉ keptOf 0 [true, true] by decide)) (pss_consS (ps_setS (i := 2) (e_fzM (e_binZ op_addAll opAdd (e_zT (pe_rdz (i := 2) rfl (.inl rfl) rfl rfl)) (pe_zv (e_zT (pe_compM (own := [("_law_wished", 6)]) (put := (Tg.n 6).put) rfl sc_law_stages.nd (i_rng1 T.z_range rfl (pe_zv (e_zT (e_binA op_addAll opAdd (pe_zv (e_zT (e_ixA (hu1 hr) (pe_atv (pe_seeN (i := 0) rfl (.inl rfl) rfl rfl)) (e_kA pe_int fun _ => .int _) (fun _ _ => rfl)))) (e_kA pe_int fun _ => .int _)))) rfl) (blkOk_by (N := ["_law_sorts", "_law_slip_here", "_law_found", "_law_alone", "_law_both", "_law_stage", "_law_wished"]) (sc := defScope s_law_stages) (by decide +kernel)) (fun _ _ _ _ _ => (pg_n (i := 6) sc_law_stages.nd rfl (.inl rfl) (.inr rfl) (show 6 ∉ others 7 [6] by decide))) (fun _ _ _ _ _ => pts_nilB) (fun _ _ _ _ _ => (e_zT (pe_tupM (pa_arEx (pe_rdz (i := 3) rfl (.inr (.inl rfl)) rfl rfl) (pa_arEx (pe_rdz (i := 4) rfl (.inr (.inl rfl)) rfl rfl) (pa_arEx (pe_rdz (i := 6) rfl (.inl rfl) rfl rfl) pa_arNil rfl) rfl) rfl)))) (fun _ => rfl) (put_length _)))))) sc_law_stages.nd rfl (.inl rfl) rfl (.inl rfl) (show 2 ∉ keptOf 0 [true, true] by decide)) pss_nilS) (fun _ => rfl)) pss_nilS) (fun _ => rfl)) (pss_consS (ps_retS (pe_compM (own := [("_law_stage", 5)]) (put := (Tg.n 5).put) rfl sc_law_stages.nd (i_seq (e_zT (pe_rdz (i := 2) rfl (.inl rfl) rfl rfl))) (blkOk_by (N := ["_law_sorts", "_law_slip_here", "_law_found", "_law_alone", "_law_both", "_law_stage", "_law_wished"]) (sc := defScope s_law_stages) (by decide +kernel)) (fun _ _ _ _ _ => (pg_n (i := 5) sc_law_stages.nd rfl (.inl rfl) (.inr rfl) (show 5 ∉ others 7 [5] by decide))) (fun _ _ _ _ _ => (pts_oneB (t_chain op_le op_le opLe opLe (e_zT (e_kT pe_int fun _ => .int _)) (e_zT (c_sum rfl T.z_sum rfl (pe_atv (pe_seeN (i := 5) rfl (.inl rfl) rfl rfl)) rfl)) (pe_atv (pe_seeN (i := 1) rfl (.inr (.inl rfl)) rfl rfl)) (by with_unfolding_all rfl)))) (fun _ _ _ _ _ => (e_zT (pe_rdz (i := 5) rfl (.inl rfl) rfl rfl))) (fun _ => rfl) (put_length _))) pss_nilS)))
abbrev s_law_near : Stmt := topS 35
theorem sc_law_near : FnScope ["_law_one", "_law_other", "_law_both", "_law_k"] ["_law_one", "_law_other"] (defScope s_law_near) := ⟨rfl, rfl, rfl, by decide +kernel, rfl, by decide +kernel, by decide +kernel⟩
def b_law_near : S := (sq (setS 2 (un1 oSum (zT (compM (itM rng1 (see (kA (.int 3)))) [3] (Tg.n 3).put (M.ret true) (zT (binZ oMin2 (zT (binA oIx (see (seeN 0)) (seeN 3))) (zT (binA oIx (see (seeN 1)) (seeN 3))))))))) (sq (retS (andV (binZ oGt (zT (binA oMul (see (kA (.int 2))) (seeN 2))) (zT (un1 oSum (see (seeN 0))))) (binZ oGt (zT (binA oMul (see (kA (.int 2))) (seeN 2))) (zT (un1 oSum (see (seeN 1))))))) RS.nx))
def m_law_near : List T → R T := bodyR 2 [true, true] b_law_near
theorem ok_law_near (T : Tx K mg) (n : Nat) : Callee P w K mg base (n + 1) "_law_near" ["_law_one", "_law_other"] m_law_near := callee_of (m := b_law_near) (ex := 2) (kp := [true, true]) (by decide) T.d_law_near sc_law_near rfl fun f cdv A outer s H E hr => (pss_consS (ps_setS (i := 2) (c_sum rfl T.z_sum rfl (pe_zv (e_zT (pe_compM (own := [("_law_k", 3)]) (put := (Tg.n 3).put) rfl sc_law_near.nd (i_rng1 T.z_range rfl (pe_atv (e_kA pe_int fun _ => .int _)) rfl) (blkOk_by (N := ["_law_one", "_law_other", "_law_both", "_law_k"]) (sc := defScope s_law_near) (by decide +kernel)) (fun _ _ _ _ _ => (pg_n (i := 3) sc_law_near.nd rfl (.inl rfl) (.inr rfl) (show 3 ∉ others 4 [3] by decide))) (fun _ _ _ _ _ => pts_nilB) (fun _ _ _ _ _ => (e_zT (c_minZ rfl T.z_min rfl (e_zT (e_ixA (hu1 hr) (pe_atv (pe_seeN (i := 0) rfl (.inr (.inl rfl)) rfl rfl)) (pe_seeN (i := 3) rfl (.inl rfl) rfl rfl) (fun _ _ => rfl))) (pe_zv (e_zT (e_ixA (hu1 hr) (pe_atv (pe_seeN (i := 1) rfl (.inr (.inl rfl)) rfl rfl)) (pe_seeN (i := 3) rfl (.inl rfl) rfl rfl) (fun _ _ => rfl)))) rfl rfl))) (fun _ => rfl) (put_length _)))) rfl) sc_law_near.nd rfl (.inl rfl) rfl (.inl rfl) (show 2 ∉ keptOf 0 [true, true] by decide)) (pss_consS (ps_retS (pe_andV (e_cmpZ op_gt opGt (e_zT (e_binA op_mulAll opMul (pe_atv (e_kA pe_int fun _ => .int _)) (pe_seeN (i := 2) rfl (.inl rfl) rfl rfl))) (pe_zv (e_zT (c_sum rfl T.z_sum rfl (pe_atv (pe_seeN (i := 0) rfl (.inr (.inl rfl)) rfl rfl)) rfl))) (nomark _)) (pe_one (e_cmpZ op_gt opGt (e_zT (e_binA op_mulAll opMul (pe_atv (e_kA pe_int fun _ => .int _)) (pe_seeN (i := 2) rfl (.inl rfl) rfl rfl))) (pe_zv (e_zT (c_sum rfl T.z_sum rfl (pe_atv (pe_seeN (i := 1) rfl (.inr (.inl rfl)) rfl rfl)) rfl))) (nomark _))))) pss_nilS))
abbrev s_law_level : Stmt := topS 36
theorem sc_law_level : FnScope ["_law_one", "_law_other"] ["_law_one", "_law_other"] (defScope s_law_level) := ⟨rfl, rfl, rfl, by decide +kernel, rfl, by decide +kernel, by decide +kernel⟩
def b_law_level : S := (sq (ifS (orB (isNB (see (seeN 0))) (isNB (see (seeN 1)))) (sq (retS (andV (isN (see (seeN 0))) (isN (see (seeN 1))))) RS.nx) RS.nx) (sq (retS (chM oLe oLe (zT (un1 oNeg (see (kA (.int 1))))) (zT (binA oSub (see (seeN 0)) (seeN 1))) (see (kA (.int 1))))) RS.nx))
def m_law_level : List T → R T := bodyR 0 [true, true] b_law_level
theorem ok_law_level (T : Tx K mg) (n : Nat) : Callee P w K mg base (n + 1) "_law_level" ["_law_one", "_law_other"] m_law_level := callee_of (m := b_law_level) (ex := 0) (kp := [true, true]) (by decide) T.d_law_level sc_law_level rfl fun f cdv A outer s H E hr => (pss_consS (ps_ifS (PW.pt (pw_orB (t_isN (pe_atv (pe_seeN (i := 0) rfl (.inl rfl) rfl rfl))) (w_or1 (t_isN (pe_atv (pe_seeN (i := 1) rfl (.inl rfl) rfl rfl)))))) (pss_consS (ps_retS (pe_andV (e_isN (pe_atv (pe_seeN (i := 0) rfl (.inl rfl) rfl rfl))) (pe_one (e_isN (pe_atv (pe_seeN (i := 1) rfl (.inl rfl) rfl rfl)))))) pss_nilS) pss_nilS) (pss_consS (ps_retS (e_chain op_le op_le opLe opLe (e_zT (e_un un_neg opNeg (pe_atv (e_kA pe_int fun _ => .int _)))) (e_zT (e_binA op_sub opSub (pe_atv (pe_seeN (i := 0) rfl (.inl rfl) rfl rfl)) (pe_seeN (i := 1) rfl (.inl rfl) rfl rfl))) (pe_atv (e_kA pe_int fun _ => .int _)) (by with_unfolding_all rfl))) pss_nilS))
def l0_law_good_table : S := (sq (ifS (andB (tsB (callM m_law_near [none, none] (argEx (fzM (slM (zT (rdz 3)) none (some (zT (kT (.int 3)))))) (argEx (fzM (slM (zT (rdz 4)) none (some (zT (kT (.int 3)))))) (M.ret []))))) (notB (tsB (callM m_law_level [none, none] (argEx (fzM (binA oIx (see (seeN 3)) (kA (.int 3)))) (argEx (fzM (binA oIx (see (seeN 4)) (kA (.int 3)))) (M.ret []))))))) (sq (retS (kT (.bl false))) RS.nx) RS.nx) RS.nx)
def l1_law_good_table : S := (sq (ifS (orB (andB (isNNB (zT (binA oIx (see (seeN 3)) (kA (.int 3))))) (tsB (binA oLt (zT (binA oIx (see (seeN 3)) (kA (.int 3)))) (kA (.int 0))))) (andB (tsB (binZ oEq (zT (slM (zT (rdz 3)) none (some (zT (kT (.int 3)))))) (zT (tupM (argEx (kT (.int 0)) (argEx (binA oIx (see (seeN 0)) (kA (.int 1))) (argEx (binA oIx (see (seeN 0)) (kA (.int 2))) (M.ret [])))))))) (tsB (binA oNe (zT (binA oIx (see (seeN 3)) (kA (.int 3)))) (kA (.int 0)))))) (sq (retS (kT (.bl false))) RS.nx) RS.nx) (sq (forS (itM itemsOf (zT (rdz 2))) (Tg.n 4).put l0_law_good_table) RS.nx))
abbrev s_law_good_table : Stmt := topS 37
theorem sc_law_good_table : FnScope ["_law_sorts", "_law_slip_here", "_law_table", "_law_row", "_law_other"] ["_law_sorts", "_law_slip_here", "_law_table"] (defScope s_law_good_table) := ⟨rfl, rfl, rfl, by decide +kernel, rfl, by decide +kernel, by decide +kernel⟩
def b_law_good_table : S := (sq (ifS (tsB (binZ oNe (zT (compM (itM itemsOf (zT (rdz 2))) [3] (Tg.n 3).put (M.ret true) (zT (slM (zT (rdz 3)) none (some (zT (kT (.int 3)))))))) (zT (callM m_law_stages [none, none] (argEx (rdz 0) (argEx (rdz 1) (M.ret []))))))) (sq (retS (kT (.bl false))) RS.nx) RS.nx) (sq (forS (itM itemsOf (zT (rdz 2))) (Tg.n 3).put l1_law_good_table) (sq (retS (kT (.bl true))) RS.nx)))
def m_law_good_table : List T → R T := bodyR 2 [true, true, true] b_law_good_table
theorem ok_law_good_table (T : Tx K mg) (n : Nat) : Callee P w K mg base (n + 2) "_law_good_table" ["_law_sorts", "_law_slip_here", "_law_table"] m_law_good_table := callee_of (m := b_law_good_table) (ex := 2) (kp := [true, true, true]) (by decide) T.d_law_good_table sc_law_good_table rfl fun f cdv A outer s H E hr => (pss_consS (ps_ifS (t_cmpZ (op_neD (hu64 hr)) opNe (e_zT (pe_compM (own := [("_law_row", 3)]) (put := (Tg.n 3).put) rfl sc_law_good_table.nd (i_seq (e_zT (pe_rdz (i := 2) rfl (.inl rfl) rfl rfl))) (blkOk_by (N := ["_law_sorts", "_law_slip_here", "_law_table", "_law_row", "_law_other"]) (sc := defScope s_law_good_table) (by decide +kernel)) (fun _ _ _ _ _ => (pg_n (i := 3) sc_law_good_table.nd rfl (.inl rfl) (.inr rfl) (show 3 ∉ others 5 [3] by decide))) (fun _ _ _ _ _ => pts_nilB) (fun _ _ _ _ _ => (e_zT (pe_slM (e_zT (pe_rdz (i := 3) rfl (.inl rfl) rfl rfl)) po_noneM (po_someM (e_zT (e_kT pe_int fun _ => .int _)))))) (fun _ => rfl) (put_length _))) (pe_zv (e_zT (c_own (tks := [none, none]) ((ok_law_stages T 0).mono (show 0 + 1 ≤ n + 1 by omega)) hr rfl takes_cx (pa_arEx (pe_rdz (i := 0) rfl (.inl rfl) rfl rfl) (pa_arEx (pe_rdz (i := 1) rfl (.inl rfl) rfl rfl) pa_arNil rfl) rfl) rfl rfl rfl))) (nomark _)) (pss_consS (ps_retS (e_kT pe_bl fun _ => .bl _)) pss_nilS) pss_nilS) (pss_consS (ps_forS passes_cx rfl (i_seq (e_zT (pe_rdz (i := 2) rfl (.inl rfl) rfl rfl))) (pg_n (i := 3) sc_law_good_table.nd rfl (.inl rfl) (.inl rfl) (show 3 ∉ keptOf 0 [true, true, true] by decide)) (pss_consS (ps_ifS (PW.pt (pw_orB (PW.pt (pw_andB (t_isNN (pe_zv (e_zT (e_ixA (hu1 hr) (pe_atv (pe_seeN (i := 3) rfl (.inl rfl) rfl rfl)) (e_kA pe_int fun _ => .int _) (fun _ _ => rfl))))) (w_and1 (t_cmpA (op_ltAll (hu64 hr)) opLt (pe_zv (e_zT (e_ixA (hu1 hr) (pe_atv (pe_seeN (i := 3) rfl (.inl rfl) rfl rfl)) (e_kA pe_int fun _ => .int _) (fun _ _ => rfl)))) (e_kA pe_int fun _ => .int _) (nomark _))))) (w_or1 (PW.pt (pw_andB (t_cmpZ (op_eqD (hu64 hr)) opEq (e_zT (pe_slM (e_zT (pe_rdz (i := 3) rfl (.inl rfl) rfl rfl)) po_noneM (po_someM (e_zT (e_kT pe_int fun _ => .int _))))) (pe_zv (e_zT (pe_tupM (pa_arEx (e_kT pe_int fun _ => .int _) (pa_arEx (e_ixA (hu1 hr) (pe_atv (pe_seeN (i := 0) rfl (.inl rfl) rfl rfl)) (e_kA pe_int fun _ => .int _) (fun _ _ => rfl)) (pa_arEx (e_ixA (hu1 hr) (pe_atv (pe_seeN (i := 0) rfl (.inl rfl) rfl rfl)) (e_kA pe_int fun _ => .int _) (fun _ _ => rfl)) pa_arNil rfl) rfl) rfl)))) (nomark _)) (w_and1 (t_cmpA (op_neD (hu64 hr)) opNe (pe_zv (e_zT (e_ixA (hu1 hr) (pe_atv (pe_seeN (i := 3) rfl (.inl rfl) rfl rfl)) (e_kA pe_int fun _ => .int _) (fun _ _ => rfl)))) (e_kA pe_int fun _ => .int _) (nomark _)))))))) (pss_consS (ps_retS (e_kT pe_bl fun _ => .bl _)) pss_nilS) pss_nilS) (pss_consS (ps_forS passes_cx rfl (i_seq (e_zT (pe_rdz (i := 2) rfl (.inl rfl) rfl rfl))) (pg_n (i := 4) sc_law_good_table.nd rfl (.inl rfl) (.inl rfl) (show 4 ∉ keptOf 0 [true, true, true] by decide)) (pss_consS (ps_ifS (PW.pt (pw_andB (t_plain (c_own (tks := [none, none]) ((ok_law_near T 0).mono (show 0 + 1 ≤ n + 1 by omega)) hr rfl takes_cx (pa_arEx (e_fzM (pe_slM (e_zT (pe_rdz (i := 3) rfl (.inl rfl) rfl rfl)) po_noneM (po_someM (e_zT (e_kT pe_int fun _ => .int _))))) (pa_arEx (e_fzM (pe_slM (e_zT (pe_rdz (i := 4) rfl (.inl rfl) rfl rfl)) po_noneM (po_someM (e_zT (e_kT pe_int fun _ => .int _))))) pa_arNil rfl) rfl) rfl rfl rfl) rfl) (w_and1 (t_not (t_plain (c_own (tks := [none, none]) ((ok_law_level T 0).mono (show 0 + 1 ≤ n + 1 by omega)) hr rfl takes_cx (pa_arEx (e_fzM (e_ixA (hu1 hr) (pe_atv (pe_seeN (i := 3) rfl (.inl rfl) rfl rfl)) (e_kA pe_int fun _ => .int _) (fun _ _ => rfl))) (pa_arEx (e_fzM (e_ixA (hu1 hr) (pe_atv (pe_seeN (i := 4) rfl (.inl rfl) rfl rfl)) (e_kA pe_int fun _ => .int _) (fun _ _ => rfl))) pa_arNil rfl) rfl) rfl rfl rfl) rfl))))) (pss_consS (ps_retS (e_kT pe_bl fun _ => .bl _)) pss_nilS) pss_nilS) pss_nilS) (fun _ => rfl)) pss_nilS)) (fun _ => rfl)) (pss_consS (ps_retS (e_kT pe_bl fun _ => .bl _)) pss_nilS)))
def l0_law_walks : S := (sq (ifS (orB (notB (tsB (isiM "list" (see (seeN 5))))) (orB (tsB (binZ oNe (zT (rdz 5)) (zT (callM m_law_set [none] (argEx (rdz 5) (M.ret [])))))) (notB (chB oLe oLe (zT (kT (.int 1))) (zT (un1 oLen (see (seeN 5)))) (see (seeN 2)))))) (sq (retS (kT (.bl false))) RS.nx) RS.nx) (sq (ifS (orB (notB (tsB (callM m_law_like [none, none] (argEx (rdz 4) (argEx (rdz 5) (M.ret [])))))) (notB (tsB (un1 oAll (zT (compM (itM itemsOf (zT (rdz 5))) [6] (Tg.n 6).put (M.ret true) (zT (orV (binA oIn (see (seeN 6)) (seeN 0)) (binA oIn (see (seeN 6)) (seeN 1)))))))))) (sq (retS (kT (.bl false))) RS.nx) RS.nx) (sq (setS 4 (rdz 5)) RS.nx)))
abbrev s_law_walks : Stmt := topS 38
theorem sc_law_walks : FnScope ["_law_start", "_law_goal", "_law_slip_here", "_law_plan", "_law_here", "_law_boat", "_law_timber"] ["_law_start", "_law_goal", "_law_slip_here", "_law_plan"] (defScope s_law_walks) := ⟨rfl, rfl, rfl, by decide +kernel, rfl, by decide +kernel, by decide +kernel⟩
def b_law_walks : S := (sq (setS 4 (rdz 0)) (sq (forS (itM itemsOf (zT (rdz 3))) (Tg.n 5).put l0_law_walks) (sq (retS (binZ oEq (zT (callM m_law_set [none] (argEx (rdz 4) (M.ret [])))) (zT (callM m_law_set [none] (argEx (rdz 1) (M.ret [])))))) RS.nx)))
def m_law_walks : List T → R T := bodyR 3 [true, true, true, true] b_law_walks
theorem ok_law_walks (T : Tx K mg) (n : Nat) : Callee P w K mg base (n + 3) "_law_walks" ["_law_start", "_law_goal", "_law_slip_here", "_law_plan"] m_law_walks := callee_of (m := b_law_walks) (ex := 3) (kp := [true, true, true, true]) (by decide) T.d_law_walks sc_law_walks rfl fun f cdv A outer s H E hr => (pss_consS (ps_setS (i := 4) (pe_rdz (i := 0) rfl (.inr (.inl rfl)) rfl rfl) sc_law_walks.nd rfl (.inl rfl) rfl (.inl rfl) (show 4 ∉ keptOf 0 [true, true, true, true] by decide)) (pss_consS (ps_forS passes_cx rfl (i_seq (e_zT (pe_rdz (i := 3) rfl (.inl rfl) rfl rfl))) (pg_n (i := 5) sc_law_walks.nd rfl (.inl rfl) (.inl rfl) (show 5 ∉ keptOf 0 [true, true, true, true] by decide)) (pss_consS (ps_ifS (PW.pt (pw_orB (t_not (t_plain (c_isi T.z_isinstance rfl T.z_list rfl boot_list (by decide) rfl (pe_atv (pe_seeN (i := 5) rfl (.inl rfl) rfl rfl)) rfl) rfl)) (pw_orB (t_cmpZ (op_neD (hu64 hr)) opNe (e_zT (pe_rdz (i := 5) rfl (.inl rfl) rfl rfl)) (pe_zv (e_zT (c_own (tks := [none]) ((ok_law_set T 0).mono (show 0 + 1 ≤ n + 2 by omega)) hr rfl takes_cx (pa_arEx (pe_rdz (i := 5) rfl (.inl rfl) rfl rfl) pa_arNil rfl) rfl rfl rfl))) (nomark _)) (w_or1 (t_not (t_chain op_le op_le opLe opLe (e_zT (e_kT pe_int fun _ => .int _)) (e_zT (c_len T.z_len rfl (pe_atv (pe_seeN (i := 5) rfl (.inl rfl) rfl rfl)) rfl)) (pe_atv (pe_seeN (i := 2) rfl (.inl rfl) rfl rfl)) (by with_unfolding_all rfl))))))) (pss_consS (ps_retS (e_kT pe_bl fun _ => .bl _)) pss_nilS) pss_nilS) (pss_consS (ps_ifS (PW.pt (pw_orB (t_not (t_plain (c_own (tks := [none, none]) ((ok_law_like T 0).mono (show 0 + 2 ≤ n + 2 by omega)) hr rfl takes_cx (pa_arEx (pe_rdz (i := 4) rfl (.inl rfl) rfl rfl) (pa_arEx (pe_rdz (i := 5) rfl (.inl rfl) rfl rfl) pa_arNil rfl) rfl) rfl rfl rfl) rfl)) (w_or1 (t_not (t_plain (c_all rfl T.z_all rfl (pe_zv (e_zT (pe_compM (own := [("_law_timber", 6)]) (put := (Tg.n 6).put) rfl sc_law_walks.nd (i_seq (e_zT (pe_rdz (i := 5) rfl (.inl rfl) rfl rfl))) (blkOk_by (N := ["_law_start", "_law_goal", "_law_slip_here", "_law_plan", "_law_here", "_law_boat", "_law_timber"]) (sc := defScope s_law_walks) (by decide +kernel)) (fun _ _ _ _ _ => (pg_n (i := 6) sc_law_walks.nd rfl (.inl rfl) (.inr rfl) (show 6 ∉ others 7 [6] by decide))) (fun _ _ _ _ _ => pts_nilB) (fun _ _ _ _ _ => (e_zT (pe_orV (e_cmpA (op_inAll (hu65 hr)) opIn (pe_atv (pe_seeN (i := 6) rfl (.inl rfl) rfl rfl)) (pe_seeN (i := 0) rfl (.inr (.inl rfl)) rfl rfl) rfl) (pe_one (e_cmpA (op_inAll (hu65 hr)) opIn (pe_atv (pe_seeN (i := 6) rfl (.inl rfl) rfl rfl)) (pe_seeN (i := 1) rfl (.inr (.inl rfl)) rfl rfl) rfl))))) (fun _ => rfl) (put_length _)))) rfl) rfl))))) (pss_consS (ps_retS (e_kT pe_bl fun _ => .bl _)) pss_nilS) pss_nilS) (pss_consS (ps_setS (i := 4) (pe_rdz (i := 5) rfl (.inl rfl) rfl rfl) sc_law_walks.nd rfl (.inl rfl) rfl (.inl rfl) (show 4 ∉ keptOf 0 [true, true, true, true] by decide)) pss_nilS))) (fun _ => rfl)) (pss_consS (ps_retS (e_cmpZ (op_eqD (hu64 hr)) opEq (e_zT (c_own (tks := [none]) ((ok_law_set T 0).mono (show 0 + 1 ≤ n + 2 by omega)) hr rfl takes_cx (pa_arEx (pe_rdz (i := 4) rfl (.inl rfl) rfl rfl) pa_arNil rfl) rfl rfl rfl)) (pe_zv (e_zT (c_own (tks := [none]) ((ok_law_set T 0).mono (show 0 + 1 ≤ n + 2 by omega)) hr rfl takes_cx (pa_arEx (pe_rdz (i := 1) rfl (.inr (.inl rfl)) rfl rfl) pa_arNil rfl) rfl rfl rfl))) (nomark _))) pss_nilS)))
def q17_law : S := (retS (andV (isNN (see (seeN 11))) (andV (binZ oEq (zT (un1 oLen (see (seeN 11)))) (zT (binA oIx (see (seeN 7)) (kA (.int 0))))) (callM m_law_walks [none, none, none, none] (argEx (rdz 4) (argEx (rdz 3) (argEx (rdz 2) (argEx (rdz 11) (M.ret [])))))))))
def q16_law : S := (setS 11 (fzM (callM m_carried [none, none, none] (argEx (rdz 4) (argEx (rdz 3) (argEx (rdz 2) (M.ret [])))))))
def q15_law : S := (ifS (lendB (orB (isNB (see (seeN 10))) (orB (tsB (binZ oNe (zT (rdz 7)) (zT (lstM (argEx (un1 oLen (see (seeN 10))) (M.ret [])))))) (orB (notB (tsB (callM m_law_walks [none, none, none, none] (argEx (rdz 3) (argEx (rdz 4) (argEx (rdz 2) (argEx (rdz 10) (M.ret [])))))))) (tsB (binA oNe (see (seeN 8)) (seeN 9))))))) (sq (retS (kT (.bl false))) RS.nx) RS.nx)
def q14_law : S := (setS 10 (callM m_carried [none, none, none] (argEx (fzM (binA oIx (see (seeN 8)) (kA (.int 0)))) (argEx (fzM (binA oIx (see (seeN 8)) (kA (.int 1)))) (argEx (rdz 2) (M.ret []))))))
def q13_law : S := (ifS (lendB (tsB (binZ oNe (zT (rdz 10)) (zT (lstM (M.ret [])))))) (sq (exprS (napM 10 (zT (kT (.int 0))) (kA (.int 0)))) (sq (exprS (clrM 10)) RS.nx)) RS.nx)
def q12_law : S := (ifS (lendB (orB (notB (tsB (isiM "list" (see (seeN 10))))) (orB (tsB (binZ oNe (zT (rdz 7)) (zT (lstM (argEx (un1 oLen (see (seeN 10))) (M.ret [])))))) (notB (tsB (callM m_law_walks [none, none, none, none] (argEx (rdz 3) (argEx (rdz 4) (argEx (rdz 2) (argEx (rdz 10) (M.ret []))))))))))) (sq (retS (kT (.bl false))) RS.nx) RS.nx)
def q11_law : S := (ifS (lendB (isNB (see (seeN 10)))) (sq (retS (binZ oEq (zT (rdz 7)) (zT (lstM (argEx (kT .non) (M.ret [])))))) RS.nx) RS.nx)
def q10_law : S := (ifS (orB (notB (tsB (callM (m_law_same 6) [none, none] (argEx (fzM (lstM (argEx (callM m_fewest [none, none, none] (argEx (rdz 3) (argEx (rdz 4) (argEx (rdz 2) (M.ret []))))) (M.ret [])))) (argEx (rdz 7) (M.ret [])))))) (tsB (binA oNe (see (seeN 8)) (seeN 9)))) (sq (retS (kT (.bl false))) RS.nx) RS.nx)
def q9_law : S := (setS 10 (callM m_carried [none, none, none] (argEx (fzM (binA oIx (see (seeN 8)) (kA (.int 0)))) (argEx (fzM (binA oIx (see (seeN 8)) (kA (.int 1)))) (argEx (rdz 2) (M.ret []))))))
def q8_law : S := (setS 9 (fzM (tupM (argEx (un1 oList (zT (binA oIx (see (seeN 8)) (kA (.int 0))))) (argEx (un1 oList (zT (binA oIx (see (seeN 8)) (kA (.int 1))))) (M.ret []))))))
def q7_law : S := (setS 8 (fzM (tupM (argEx (un1 oRev (see (seeN 3))) (argEx (binZ oAdd (zT (rdz 4)) (zT (slM (zT (rdz 4)) none (some (zT (callM m_law_take [some 1, none] (argTk 1 (argEx (kT (.int 3)) (M.ret []))))))))) (M.ret []))))))
def q6_law : S := (setS 7 (compM (itM itemsOf (zT (rdz 6))) [12] (Tg.n 12).put (tsB (binZ oEq (zT (slM (zT (rdz 12)) none (some (zT (kT (.int 3)))))) (zT (tupM (argEx (binA oIx (see (seeN 5)) (kA (.int 0))) (argEx (binA oIx (see (seeN 5)) (kA (.int 1))) (argEx (kT (.int 0)) (M.ret [])))))))) (zT (binA oIx (see (seeN 12)) (kA (.int 3))))))
def q5_law : S := (ifS (notB (tsB (callM m_law_good_table [none, none, none] (argEx (rdz 5) (argEx (rdz 2) (argEx (rdz 6) (M.ret []))))))) (sq (retS (kT (.bl false))) RS.nx) RS.nx)
def q4_law : S := (setS 6 (fzM (callM m_heights [none, none, none] (argEx (rdz 3) (argEx (rdz 4) (argEx (rdz 2) (M.ret [])))))))
def q3_law : S := (setS 5 (fzM (callM m_law_kinds [none, none] (argEx (rdz 3) (argEx (rdz 4) (M.ret []))))))
def q2_law : S := (asgS (Tg.t [(Tg.n 3), (Tg.n 4)]) (zT (callM m_law_ends [some 1, none] (argTk 1 (argEx (rdz 2) (M.ret []))))))
def q1_law : S := (setS 2 (fzM (callM m_law_slip [some 1] (argTk 1 (M.ret [])))))
def q0_law : S := (setS 1 (callM m_law_begin [none] (argEx (rdz 0) (M.ret []))))
abbrev s_law : Stmt := topS 39
theorem sc_law : FnScope ["_law_script", "_law_draw", "_law_slip_here", "_law_start", "_law_goal", "_law_sorts", "_law_table", "_law_height", "_law_handed", "_law_kept", "_law_plan", "_law_again", "_law_row"] ["_law_script"] (defScope s_law) := ⟨rfl, rfl, rfl, by decide +kernel, rfl, by decide +kernel, by decide +kernel⟩
def b_law : S := (sq q0_law (sq q1_law (sq q2_law (sq q3_law (sq q4_law (sq q5_law (sq q6_law (sq q7_law (sq q8_law (sq q9_law (sq q10_law (sq q11_law (sq q12_law (sq q13_law (sq q14_law (sq q15_law (sq q16_law (sq q17_law RS.nx))))))))))))))))))
def m_law : List T → R T := bodyR 12 [true] b_law
theorem pr_law (T : Tx K mg) (n : Nat) (f : Addr) (cdv : Value) (A : Around) (outer : List Env) (s : Shared) (H : Hp) (E : XK) (hr : Room (n + 7) (A.deeper (envOfC "law" (defScope s_law) s.heap.objs.size f cdv))) : PSs (cxOf (L2.CX P w) P w K mg base ["_law_script", "_law_draw", "_law_slip_here", "_law_start", "_law_goal", "_law_sorts", "_law_table", "_law_height", "_law_handed", "_law_kept", "_law_plan", "_law_again", "_law_row"] "law" (defScope s_law) f cdv A outer s H E) (defBody s_law) (tS ⟨K, mg, P, w⟩ (fun c d _ H => E c d H) (keptOf 0 [true]) b_law) := (pss_consS (ps_setS (i := 1) (c_own (tks := [none]) ((ok_law_begin T 0).mono (show 0 + 1 ≤ n + 7 by omega)) hr rfl takes_cx (pa_arEx (pe_rdz (i := 0) rfl (.inl rfl) rfl rfl) pa_arNil rfl) rfl rfl rfl) sc_law.nd rfl (.inl rfl) rfl (.inl rfl) (show 1 ∉ keptOf 0 [true] by decide)) (pss_consS (ps_setS (i := 2) (e_fzM (c_own (tks := [some 1]) ((ok_law_slip T 0).mono (show 0 + 2 ≤ n + 7 by omega)) hr rfl takes_cx (pa_arTk (i := 1) rfl (.inl rfl) rfl rfl pa_arNil) rfl rfl rfl)) sc_law.nd rfl (.inl rfl) rfl (.inl rfl) (show 2 ∉ keptOf 0 [true] by decide)) (pss_consS (ps_asgS (e_zT (c_own (tks := [some 1, none]) ((ok_law_ends T 0).mono (show 0 + 3 ≤ n + 7 by omega)) hr rfl takes_cx (pa_arTk (i := 1) rfl (.inl rfl) rfl rfl (pa_arEx (pe_rdz (i := 2) rfl (.inl rfl) rfl rfl) pa_arNil rfl)) rfl rfl rfl)) (pg_t rfl (pgs_consD (pg_n (i := 3) sc_law.nd rfl (.inl rfl) (.inl rfl) (show 3 ∉ keptOf 0 [true] by decide)) (pgs_consD (pg_n (i := 4) sc_law.nd rfl (.inl rfl) (.inl rfl) (show 4 ∉ keptOf 0 [true] by decide)) pgs_nilD rfl) rfl) rfl rfl) rfl rfl rfl) (pss_consS (ps_setS (i := 5) (e_fzM (c_own (tks := [none, none]) ((ok_law_kinds T 0).mono (show 0 + 2 ≤ n + 7 by omega)) hr rfl takes_cx (pa_arEx (pe_rdz (i := 3) rfl (.inl rfl) rfl rfl) (pa_arEx (pe_rdz (i := 4) rfl (.inl rfl) rfl rfl) pa_arNil rfl) rfl) rfl rfl rfl)) sc_law.nd rfl (.inr rfl) rfl (.inl rfl) (show 5 ∉ keptOf 0 [true] by decide)) (pss_consS (ps_setS (i := 6) (e_fzM (c_own (tks := [none, none, none]) ((ok_heights T 0).mono (show 0 + 5 ≤ n + 7 by omega)) hr rfl takes_cx (pa_arEx (pe_rdz (i := 3) rfl (.inl rfl) rfl rfl) (pa_arEx (pe_rdz (i := 4) rfl (.inl rfl) rfl rfl) (pa_arEx (pe_rdz (i := 2) rfl (.inl rfl) rfl rfl) pa_arNil rfl) rfl) rfl) rfl rfl rfl)) sc_law.nd rfl (.inl rfl) rfl (.inl rfl) (show 6 ∉ keptOf 0 [true] by decide)) (pss_consS (ps_ifS (t_not (t_plain (c_own (tks := [none, none, none]) ((ok_law_good_table T 0).mono (show 0 + 2 ≤ n + 7 by omega)) hr rfl takes_cx (pa_arEx (pe_rdz (i := 5) rfl (.inr (.inl rfl)) rfl rfl) (pa_arEx (pe_rdz (i := 2) rfl (.inl rfl) rfl rfl) (pa_arEx (pe_rdz (i := 6) rfl (.inl rfl) rfl rfl) pa_arNil rfl) rfl) rfl) rfl rfl rfl) rfl)) (pss_consS (ps_retS (e_kT pe_bl fun _ => .bl _)) pss_nilS) pss_nilS) (pss_consS (ps_setCompM (i := 7) (own := [("_law_row", 12)]) (put := (Tg.n 12).put) rfl sc_law.nd rfl rfl (sw_true rfl rfl rfl (by decide +kernel)) (i_seq (e_zT (pe_rdz (i := 6) rfl (.inl rfl) rfl rfl))) (blkOk_by (N := ["_law_script", "_law_draw", "_law_slip_here", "_law_start", "_law_goal", "_law_sorts", "_law_table", "_law_height", "_law_handed", "_law_kept", "_law_plan", "_law_again", "_law_row"]) (sc := defScope s_law) (by decide +kernel)) (fun _ _ _ _ _ => (pg_n (i := 12) sc_law.nd rfl (.inl rfl) (.inr rfl) (show 12 ∉ others 13 [12] by decide))) (fun _ _ _ _ _ => (pts_oneB (t_cmpZ (op_eqD (hu64 hr)) opEq (e_zT (pe_slM (e_zT (pe_rdz (i := 12) rfl (.inl rfl) rfl rfl)) po_noneM (po_someM (e_zT (e_kT pe_int fun _ => .int _))))) (pe_zv (e_zT (pe_tupM (pa_arEx (e_ixA (hu1 hr) (pe_atv (pe_seeN (i := 5) rfl (.inr (.inl rfl)) rfl rfl)) (e_kA pe_int fun _ => .int _) (fun _ _ => rfl)) (pa_arEx (e_ixA (hu1 hr) (pe_atv (pe_seeN (i := 5) rfl (.inr (.inl rfl)) rfl rfl)) (e_kA pe_int fun _ => .int _) (fun _ _ => rfl)) (pa_arEx (e_kT pe_int fun _ => .int _) pa_arNil rfl) rfl) rfl)))) (nomark _)))) (fun _ _ _ _ _ => (e_zT (e_ixA (hu1 hr) (pe_atv (pe_seeN (i := 12) rfl (.inl rfl) rfl rfl)) (e_kA pe_int fun _ => .int _) (fun _ _ => rfl)))) (fun _ => rfl) (put_length _) (show 7 ∉ keptOf 0 [true] by decide)) (pss_consS (ps_setS (i := 8) (e_fzM (pe_tupM (pa_arEx (e_revL (pe_atv (pe_seeN (i := 3) rfl (.inl rfl) rfl rfl))) (pa_arEx (e_binZ op_addAll opAdd (e_zT (pe_rdz (i := 4) rfl (.inl rfl) rfl rfl)) (pe_zv (e_zT (pe_slM (e_zT (pe_rdz (i := 4) rfl (.inl rfl) rfl rfl)) po_noneM (po_someM (e_zT (c_own (tks := [some 1, none]) ((ok_law_take T 0).mono (show 0 + 1 ≤ n + 7 by omega)) hr rfl takes_cx (pa_arTk (i := 1) rfl (.inl rfl) rfl rfl (pa_arEx (e_kT pe_int fun _ => .int _) pa_arNil rfl)) rfl rfl rfl))))))) pa_arNil rfl) rfl))) sc_law.nd rfl (.inl rfl) rfl (.inl rfl) (show 8 ∉ keptOf 0 [true] by decide)) (pss_consS (ps_setS (i := 9) (e_fzM (pe_tupM (pa_arEx (c_list rfl T.z_list rfl (pe_zv (e_zT (e_ixA (hu1 hr) (pe_atv (pe_seeN (i := 8) rfl (.inl rfl) rfl rfl)) (e_kA pe_int fun _ => .int _) (fun _ _ => rfl)))) rfl) (pa_arEx (c_list rfl T.z_list rfl (pe_zv (e_zT (e_ixA (hu1 hr) (pe_atv (pe_seeN (i := 8) rfl (.inl rfl) rfl rfl)) (e_kA pe_int fun _ => .int _) (fun _ _ => rfl)))) rfl) pa_arNil rfl) rfl))) sc_law.nd rfl (.inl rfl) rfl (.inl rfl) (show 9 ∉ keptOf 0 [true] by decide)) (pss_consS (ps_setS (i := 10) (c_own (tks := [none, none, none]) ((ok_carried T 0).mono (show 0 + 5 ≤ n + 7 by omega)) hr rfl takes_cx (pa_arEx (e_fzM (e_ixA (hu1 hr) (pe_atv (pe_seeN (i := 8) rfl (.inl rfl) rfl rfl)) (e_kA pe_int fun _ => .int _) (fun _ _ => rfl))) (pa_arEx (e_fzM (e_ixA (hu1 hr) (pe_atv (pe_seeN (i := 8) rfl (.inl rfl) rfl rfl)) (e_kA pe_int fun _ => .int _) (fun _ _ => rfl))) (pa_arEx (pe_rdz (i := 2) rfl (.inl rfl) rfl rfl) pa_arNil rfl) rfl) rfl) rfl rfl rfl) sc_law.nd rfl (.inl rfl) rfl (.inl rfl) (show 10 ∉ keptOf 0 [true] by decide)) (pss_consS (ps_ifS (PW.pt (pw_orB (t_not (t_plain (c_own (tks := [none, none]) ((ok_law_same T 6).mono (show 6 + 1 ≤ n + 7 by omega)) hr rfl takes_cx (pa_arEx (e_fzM (pe_lstM (pa_arEx (c_own (tks := [none, none, none]) ((ok_fewest T 0).mono (show 0 + 5 ≤ n + 7 by omega)) hr rfl takes_cx (pa_arEx (pe_rdz (i := 3) rfl (.inl rfl) rfl rfl) (pa_arEx (pe_rdz (i := 4) rfl (.inl rfl) rfl rfl) (pa_arEx (pe_rdz (i := 2) rfl (.inl rfl) rfl rfl) pa_arNil rfl) rfl) rfl) rfl rfl rfl) pa_arNil rfl))) (pa_arEx (pe_rdz (i := 7) rfl (.inl rfl) rfl rfl) pa_arNil rfl) rfl) rfl rfl rfl) rfl)) (w_or1 (t_cmpA (op_neD (hu64 hr)) opNe (pe_atv (pe_seeN (i := 8) rfl (.inl rfl) rfl rfl)) (pe_seeN (i := 9) rfl (.inl rfl) rfl rfl) (nomark _))))) (pss_consS (ps_retS (e_kT pe_bl fun _ => .bl _)) pss_nilS) pss_nilS) (pss_consS (ps_ifS (pt_lend (t_isN (pe_atv (pe_seeN (i := 10) rfl (.inl rfl) rfl rfl)))) (pss_consS (ps_retS (e_cmpZ (op_eqD (hu64 hr)) opEq (e_zT (pe_rdz (i := 7) rfl (.inl rfl) rfl rfl)) (pe_zv (e_zT (pe_lstM (pa_arEx (e_kT pe_non fun _ => .non) pa_arNil rfl)))) (nomark _))) pss_nilS) pss_nilS) (pss_consS (ps_ifS (pt_lend (PW.pt (pw_orB (t_not (t_plain (c_isi T.z_isinstance rfl T.z_list rfl boot_list (by decide) rfl (pe_atv (pe_seeN (i := 10) rfl (.inl rfl) rfl rfl)) rfl) rfl)) (pw_orB (t_cmpZ (op_neD (hu64 hr)) opNe (e_zT (pe_rdz (i := 7) rfl (.inl rfl) rfl rfl)) (pe_zv (e_zT (pe_lstM (pa_arEx (c_len T.z_len rfl (pe_atv (pe_seeN (i := 10) rfl (.inl rfl) rfl rfl)) rfl) pa_arNil rfl)))) (nomark _)) (w_or1 (t_not (t_plain (c_own (tks := [none, none, none, none]) ((ok_law_walks T 0).mono (show 0 + 3 ≤ n + 7 by omega)) hr rfl takes_cx (pa_arEx (pe_rdz (i := 3) rfl (.inl rfl) rfl rfl) (pa_arEx (pe_rdz (i := 4) rfl (.inl rfl) rfl rfl) (pa_arEx (pe_rdz (i := 2) rfl (.inl rfl) rfl rfl) (pa_arEx (pe_rdz (i := 10) rfl (.inl rfl) rfl rfl) pa_arNil rfl) rfl) rfl) rfl) rfl rfl rfl) rfl))))))) (pss_consS (ps_retS (e_kT pe_bl fun _ => .bl _)) pss_nilS) pss_nilS) (pss_consS (ps_ifS (pt_lend (t_cmpZ (op_neD (hu64 hr)) opNe (e_zT (pe_rdz (i := 10) rfl (.inl rfl) rfl rfl)) (pe_zv (e_zT (pe_lstM pa_arNil))) (nomark _))) (pss_consS (ps_exprS (pe_napM (i := 10) (hu1 hr) rfl (.inl rfl) rfl rfl (e_zT (e_kT pe_int fun _ => .int _)) (fun _ _ => rfl) (e_kA pe_int fun _ => .int _) rfl rfl rfl) rfl) (pss_consS (ps_exprS (pe_clrM (i := 10) rfl (.inl rfl) rfl rfl rfl) rfl) pss_nilS)) pss_nilS) (pss_consS (ps_setS (i := 10) (c_own (tks := [none, none, none]) ((ok_carried T 0).mono (show 0 + 5 ≤ n + 7 by omega)) hr rfl takes_cx (pa_arEx (e_fzM (e_ixA (hu1 hr) (pe_atv (pe_seeN (i := 8) rfl (.inl rfl) rfl rfl)) (e_kA pe_int fun _ => .int _) (fun _ _ => rfl))) (pa_arEx (e_fzM (e_ixA (hu1 hr) (pe_atv (pe_seeN (i := 8) rfl (.inl rfl) rfl rfl)) (e_kA pe_int fun _ => .int _) (fun _ _ => rfl))) (pa_arEx (pe_rdz (i := 2) rfl (.inl rfl) rfl rfl) pa_arNil rfl) rfl) rfl) rfl rfl rfl) sc_law.nd rfl (.inl rfl) rfl (.inl rfl) (show 10 ∉ keptOf 0 [true] by decide)) (pss_consS (ps_ifS (pt_lend (PW.pt (pw_orB (t_isN (pe_atv (pe_seeN (i := 10) rfl (.inl rfl) rfl rfl))) (pw_orB (t_cmpZ (op_neD (hu64 hr)) opNe (e_zT (pe_rdz (i := 7) rfl (.inl rfl) rfl rfl)) (pe_zv (e_zT (pe_lstM (pa_arEx (c_len T.z_len rfl (pe_atv (pe_seeN (i := 10) rfl (.inl rfl) rfl rfl)) rfl) pa_arNil rfl)))) (nomark _)) (pw_orB (t_not (t_plain (c_own (tks := [none, none, none, none]) ((ok_law_walks T 0).mono (show 0 + 3 ≤ n + 7 by omega)) hr rfl takes_cx (pa_arEx (pe_rdz (i := 3) rfl (.inl rfl) rfl rfl) (pa_arEx (pe_rdz (i := 4) rfl (.inl rfl) rfl rfl) (pa_arEx (pe_rdz (i := 2) rfl (.inl rfl) rfl rfl) (pa_arEx (pe_rdz (i := 10) rfl (.inl rfl) rfl rfl) pa_arNil rfl) rfl) rfl) rfl) rfl rfl rfl) rfl)) (w_or1 (t_cmpA (op_neD (hu64 hr)) opNe (pe_atv (pe_seeN (i := 8) rfl (.inl rfl) rfl rfl)) (pe_seeN (i := 9) rfl (.inl rfl) rfl rfl) (nomark _)))))))) (pss_consS (ps_retS (e_kT pe_bl fun _ => .bl _)) pss_nilS) pss_nilS) (pss_consS (ps_setS (i := 11) (e_fzM (c_own (tks := [none, none, none]) ((ok_carried T 0).mono (show 0 + 5 ≤ n + 7 by omega)) hr rfl takes_cx (pa_arEx (pe_rdz (i := 4) rfl (.inl rfl) rfl rfl) (pa_arEx (pe_rdz (i := 3) rfl (.inl rfl) rfl rfl) (pa_arEx (pe_rdz (i := 2) rfl (.inl rfl) rfl rfl) pa_arNil rfl) rfl) rfl) rfl rfl rfl)) sc_law.nd rfl (.inl rfl) rfl (.inl rfl) (show 11 ∉ keptOf 0 [true] by decide)) (pss_consS (ps_retS (pe_andV (e_isNN (pe_atv (pe_seeN (i := 11) rfl (.inl rfl) rfl rfl))) (pe_andV (e_cmpZ (op_eqD (hu64 hr)) opEq (e_zT (c_len T.z_len rfl (pe_atv (pe_seeN (i := 11) rfl (.inl rfl) rfl rfl)) rfl)) (pe_zv (e_zT (e_ixA (hu1 hr) (pe_atv (pe_seeN (i := 7) rfl (.inl rfl) rfl rfl)) (e_kA pe_int fun _ => .int _) (fun _ _ => rfl)))) (nomark _)) (pe_one (c_own (tks := [none, none, none, none]) ((ok_law_walks T 0).mono (show 0 + 3 ≤ n + 7 by omega)) hr rfl takes_cx (pa_arEx (pe_rdz (i := 4) rfl (.inl rfl) rfl rfl) (pa_arEx (pe_rdz (i := 3) rfl (.inl rfl) rfl rfl) (pa_arEx (pe_rdz (i := 2) rfl (.inl rfl) rfl rfl) (pa_arEx (pe_rdz (i := 11) rfl (.inl rfl) rfl rfl) pa_arNil rfl) rfl) rfl) rfl) rfl rfl rfl))))) pss_nilS))))))))))))))))))
def LawTrue : Prop := ∀ ns : List Int, ns.length ≤ 63 → ∃ fins, m_law [.z (.scr ns)] = .ok (.z (.bl true)) fins
end
theorem all_mk {l : PySem.W.OpenLaw} {w : World} {K : PySem.W.Frag} {h : Heap} {mg : Str → Option Value} {fa : Addr} (law_true : LawTrue) (X : K.In h) (G : h.Ns mainGlobals mg) (hfa : mg "law" = some (.ref fa))
    {f0 : Addr} {od0 an0 : Option Addr} {sl0 : Array (Option Value)} {oc0 kV0 dc0 pm0 cd0 ct0 : Value} (a0 : PySem.W.nsIn K mainGlobals "is_number" = some (some (.ref f0))) (l0 : K.lookup f0 = some ⟨oc0, od0, .func (PySem.W.fnOf "is_number" "is_number" (defArgs (topS 6)) (defBody (topS 6)) (defScope (topS 6)) .none kV0 dc0 pm0 an0 cd0 ct0), sl0⟩) (c0 : PySem.W.codeIn K cd0 "is_number" = true) (k0 : PySem.W.keepIn K (.ref f0) = true)
    {f1 : Addr} {od1 an1 : Option Addr} {sl1 : Array (Option Value)} {oc1 kV1 dc1 pm1 cd1 ct1 : Value} (a1 : PySem.W.nsIn K mainGlobals "between" = some (some (.ref f1))) (l1 : K.lookup f1 = some ⟨oc1, od1, .func (PySem.W.fnOf "between" "between" (defArgs (topS 7)) (defBody (topS 7)) (defScope (topS 7)) .none kV1 dc1 pm1 an1 cd1 ct1), sl1⟩) (c1 : PySem.W.codeIn K cd1 "between" = true) (k1 : PySem.W.keepIn K (.ref f1) = true)
    {f2 : Addr} {od2 an2 : Option Addr} {sl2 : Array (Option Value)} {oc2 kV2 dc2 pm2 cd2 ct2 : Value} (a2 : PySem.W.nsIn K mainGlobals "is_slip" = some (some (.ref f2))) (l2 : K.lookup f2 = some ⟨oc2, od2, .func (PySem.W.fnOf "is_slip" "is_slip" (defArgs (topS 8)) (defBody (topS 8)) (defScope (topS 8)) .none kV2 dc2 pm2 an2 cd2 ct2), sl2⟩) (c2 : PySem.W.codeIn K cd2 "is_slip" = true) (k2 : PySem.W.keepIn K (.ref f2) = true)
    {f3 : Addr} {od3 an3 : Option Addr} {sl3 : Array (Option Value)} {oc3 kV3 dc3 pm3 cd3 ct3 : Value} (a3 : PySem.W.nsIn K mainGlobals "rising" = some (some (.ref f3))) (l3 : K.lookup f3 = some ⟨oc3, od3, .func (PySem.W.fnOf "rising" "rising" (defArgs (topS 9)) (defBody (topS 9)) (defScope (topS 9)) .none kV3 dc3 pm3 an3 cd3 ct3), sl3⟩) (c3 : PySem.W.codeIn K cd3 "rising" = true) (k3 : PySem.W.keepIn K (.ref f3) = true)
    {f4 : Addr} {od4 an4 : Option Addr} {sl4 : Array (Option Value)} {oc4 kV4 dc4 pm4 cd4 ct4 : Value} (a4 : PySem.W.nsIn K mainGlobals "common" = some (some (.ref f4))) (l4 : K.lookup f4 = some ⟨oc4, od4, .func (PySem.W.fnOf "common" "common" (defArgs (topS 10)) (defBody (topS 10)) (defScope (topS 10)) .none kV4 dc4 pm4 an4 cd4 ct4), sl4⟩) (c4 : PySem.W.codeIn K cd4 "common" = true) (k4 : PySem.W.keepIn K (.ref f4) = true)
    {f5 : Addr} {od5 an5 : Option Addr} {sl5 : Array (Option Value)} {oc5 kV5 dc5 pm5 cd5 ct5 : Value} (a5 : PySem.W.nsIn K mainGlobals "apart" = some (some (.ref f5))) (l5 : K.lookup f5 = some ⟨oc5, od5, .func (PySem.W.fnOf "apart" "apart" (defArgs (topS 11)) (defBody (topS 11)) (defScope (topS 11)) .none kV5 dc5 pm5 an5 cd5 ct5), sl5⟩) (c5 : PySem.W.codeIn K cd5 "apart" = true) (k5 : PySem.W.keepIn K (.ref f5) = true)
    {f6 : Addr} {od6 an6 : Option Addr} {sl6 : Array (Option Value)} {oc6 kV6 dc6 pm6 cd6 ct6 : Value} (a6 : PySem.W.nsIn K mainGlobals "alike" = some (some (.ref f6))) (l6 : K.lookup f6 = some ⟨oc6, od6, .func (PySem.W.fnOf "alike" "alike" (defArgs (topS 13)) (defBody (topS 13)) (defScope (topS 13)) .none kV6 dc6 pm6 an6 cd6 ct6), sl6⟩) (c6 : PySem.W.codeIn K cd6 "alike" = true) (k6 : PySem.W.keepIn K (.ref f6) = true)
    {f7 : Addr} {od7 an7 : Option Addr} {sl7 : Array (Option Value)} {oc7 kV7 dc7 pm7 cd7 ct7 : Value} (a7 : PySem.W.nsIn K mainGlobals "near" = some (some (.ref f7))) (l7 : K.lookup f7 = some ⟨oc7, od7, .func (PySem.W.fnOf "near" "near" (defArgs (topS 15)) (defBody (topS 15)) (defScope (topS 15)) .none kV7 dc7 pm7 an7 cd7 ct7), sl7⟩) (c7 : PySem.W.codeIn K cd7 "near" = true) (k7 : PySem.W.keepIn K (.ref f7) = true)
    {f8 : Addr} {od8 an8 : Option Addr} {sl8 : Array (Option Value)} {oc8 kV8 dc8 pm8 cd8 ct8 : Value} (a8 : PySem.W.nsIn K mainGlobals "held" = some (some (.ref f8))) (l8 : K.lookup f8 = some ⟨oc8, od8, .func (PySem.W.fnOf "held" "held" (defArgs (topS 16)) (defBody (topS 16)) (defScope (topS 16)) .none kV8 dc8 pm8 an8 cd8 ct8), sl8⟩) (c8 : PySem.W.codeIn K cd8 "held" = true) (k8 : PySem.W.keepIn K (.ref f8) = true)
    {f9 : Addr} {od9 an9 : Option Addr} {sl9 : Array (Option Value)} {oc9 kV9 dc9 pm9 cd9 ct9 : Value} (a9 : PySem.W.nsIn K mainGlobals "stages_of" = some (some (.ref f9))) (l9 : K.lookup f9 = some ⟨oc9, od9, .func (PySem.W.fnOf "stages_of" "stages_of" (defArgs (topS 17)) (defBody (topS 17)) (defScope (topS 17)) .none kV9 dc9 pm9 an9 cd9 ct9), sl9⟩) (c9 : PySem.W.codeIn K cd9 "stages_of" = true) (k9 : PySem.W.keepIn K (.ref f9) = true)
    {f10 : Addr} {od10 an10 : Option Addr} {sl10 : Array (Option Value)} {oc10 kV10 dc10 pm10 cd10 ct10 : Value} (a10 : PySem.W.nsIn K mainGlobals "ends_of" = some (some (.ref f10))) (l10 : K.lookup f10 = some ⟨oc10, od10, .func (PySem.W.fnOf "ends_of" "ends_of" (defArgs (topS 18)) (defBody (topS 18)) (defScope (topS 18)) .none kV10 dc10 pm10 an10 cd10 ct10), sl10⟩) (c10 : PySem.W.codeIn K cd10 "ends_of" = true) (k10 : PySem.W.keepIn K (.ref f10) = true)
    {f11 : Addr} {od11 an11 : Option Addr} {sl11 : Array (Option Value)} {oc11 kV11 dc11 pm11 cd11 ct11 : Value} (a11 : PySem.W.nsIn K mainGlobals "heights_of" = some (some (.ref f11))) (l11 : K.lookup f11 = some ⟨oc11, od11, .func (PySem.W.fnOf "heights_of" "heights_of" (defArgs (topS 19)) (defBody (topS 19)) (defScope (topS 19)) .none kV11 dc11 pm11 an11 cd11 ct11), sl11⟩) (c11 : PySem.W.codeIn K cd11 "heights_of" = true) (k11 : PySem.W.keepIn K (.ref f11) = true)
    {f12 : Addr} {od12 an12 : Option Addr} {sl12 : Array (Option Value)} {oc12 kV12 dc12 pm12 cd12 ct12 : Value} (a12 : PySem.W.nsIn K mainGlobals "heights" = some (some (.ref f12))) (l12 : K.lookup f12 = some ⟨oc12, od12, .func (PySem.W.fnOf "heights" "heights" (defArgs (topS 20)) (defBody (topS 20)) (defScope (topS 20)) .none kV12 dc12 pm12 an12 cd12 ct12), sl12⟩) (c12 : PySem.W.codeIn K cd12 "heights" = true) (k12 : PySem.W.keepIn K (.ref f12) = true)
    {f13 : Addr} {od13 an13 : Option Addr} {sl13 : Array (Option Value)} {oc13 kV13 dc13 pm13 cd13 ct13 : Value} (a13 : PySem.W.nsIn K mainGlobals "fewest" = some (some (.ref f13))) (l13 : K.lookup f13 = some ⟨oc13, od13, .func (PySem.W.fnOf "fewest" "fewest" (defArgs (topS 21)) (defBody (topS 21)) (defScope (topS 21)) .none kV13 dc13 pm13 an13 cd13 ct13), sl13⟩) (c13 : PySem.W.codeIn K cd13 "fewest" = true) (k13 : PySem.W.keepIn K (.ref f13) = true)
    {f14 : Addr} {od14 an14 : Option Addr} {sl14 : Array (Option Value)} {oc14 kV14 dc14 pm14 cd14 ct14 : Value} (a14 : PySem.W.nsIn K mainGlobals "refitted" = some (some (.ref f14))) (l14 : K.lookup f14 = some ⟨oc14, od14, .func (PySem.W.fnOf "refitted" "refitted" (defArgs (topS 22)) (defBody (topS 22)) (defScope (topS 22)) .none kV14 dc14 pm14 an14 cd14 ct14), sl14⟩) (c14 : PySem.W.codeIn K cd14 "refitted" = true) (k14 : PySem.W.keepIn K (.ref f14) = true)
    {f15 : Addr} {od15 an15 : Option Addr} {sl15 : Array (Option Value)} {oc15 kV15 dc15 pm15 cd15 ct15 : Value} (a15 : PySem.W.nsIn K mainGlobals "carried" = some (some (.ref f15))) (l15 : K.lookup f15 = some ⟨oc15, od15, .func (PySem.W.fnOf "carried" "carried" (defArgs (topS 23)) (defBody (topS 23)) (defScope (topS 23)) .none kV15 dc15 pm15 an15 cd15 ct15), sl15⟩) (c15 : PySem.W.codeIn K cd15 "carried" = true) (k15 : PySem.W.keepIn K (.ref f15) = true)
    {f16 : Addr} {od16 an16 : Option Addr} {sl16 : Array (Option Value)} {oc16 kV16 dc16 pm16 cd16 ct16 : Value} (a16 : PySem.W.nsIn K mainGlobals "_law_begin" = some (some (.ref f16))) (l16 : K.lookup f16 = some ⟨oc16, od16, .func (PySem.W.fnOf "_law_begin" "_law_begin" (defArgs (topS 25)) (defBody (topS 25)) (defScope (topS 25)) .none kV16 dc16 pm16 an16 cd16 ct16), sl16⟩) (c16 : PySem.W.codeIn K cd16 "_law_begin" = true) (k16 : PySem.W.keepIn K (.ref f16) = true)
    {f17 : Addr} {od17 an17 : Option Addr} {sl17 : Array (Option Value)} {oc17 kV17 dc17 pm17 cd17 ct17 : Value} (a17 : PySem.W.nsIn K mainGlobals "_law_take" = some (some (.ref f17))) (l17 : K.lookup f17 = some ⟨oc17, od17, .func (PySem.W.fnOf "_law_take" "_law_take" (defArgs (topS 26)) (defBody (topS 26)) (defScope (topS 26)) .none kV17 dc17 pm17 an17 cd17 ct17), sl17⟩) (c17 : PySem.W.codeIn K cd17 "_law_take" = true) (k17 : PySem.W.keepIn K (.ref f17) = true)
    {f18 : Addr} {od18 an18 : Option Addr} {sl18 : Array (Option Value)} {oc18 kV18 dc18 pm18 cd18 ct18 : Value} (a18 : PySem.W.nsIn K mainGlobals "_law_same" = some (some (.ref f18))) (l18 : K.lookup f18 = some ⟨oc18, od18, .func (PySem.W.fnOf "_law_same" "_law_same" (defArgs (topS 27)) (defBody (topS 27)) (defScope (topS 27)) .none kV18 dc18 pm18 an18 cd18 ct18), sl18⟩) (c18 : PySem.W.codeIn K cd18 "_law_same" = true) (k18 : PySem.W.keepIn K (.ref f18) = true)
    {f19 : Addr} {od19 an19 : Option Addr} {sl19 : Array (Option Value)} {oc19 kV19 dc19 pm19 cd19 ct19 : Value} (a19 : PySem.W.nsIn K mainGlobals "_law_set" = some (some (.ref f19))) (l19 : K.lookup f19 = some ⟨oc19, od19, .func (PySem.W.fnOf "_law_set" "_law_set" (defArgs (topS 28)) (defBody (topS 28)) (defScope (topS 28)) .none kV19 dc19 pm19 an19 cd19 ct19), sl19⟩) (c19 : PySem.W.codeIn K cd19 "_law_set" = true) (k19 : PySem.W.keepIn K (.ref f19) = true)
    {f20 : Addr} {od20 an20 : Option Addr} {sl20 : Array (Option Value)} {oc20 kV20 dc20 pm20 cd20 ct20 : Value} (a20 : PySem.W.nsIn K mainGlobals "_law_like" = some (some (.ref f20))) (l20 : K.lookup f20 = some ⟨oc20, od20, .func (PySem.W.fnOf "_law_like" "_law_like" (defArgs (topS 29)) (defBody (topS 29)) (defScope (topS 29)) .none kV20 dc20 pm20 an20 cd20 ct20), sl20⟩) (c20 : PySem.W.codeIn K cd20 "_law_like" = true) (k20 : PySem.W.keepIn K (.ref f20) = true)
    {f21 : Addr} {od21 an21 : Option Addr} {sl21 : Array (Option Value)} {oc21 kV21 dc21 pm21 cd21 ct21 : Value} (a21 : PySem.W.nsIn K mainGlobals "_law_some" = some (some (.ref f21))) (l21 : K.lookup f21 = some ⟨oc21, od21, .func (PySem.W.fnOf "_law_some" "_law_some" (defArgs (topS 30)) (defBody (topS 30)) (defScope (topS 30)) .none kV21 dc21 pm21 an21 cd21 ct21), sl21⟩) (c21 : PySem.W.codeIn K cd21 "_law_some" = true) (k21 : PySem.W.keepIn K (.ref f21) = true)
    {f22 : Addr} {od22 an22 : Option Addr} {sl22 : Array (Option Value)} {oc22 kV22 dc22 pm22 cd22 ct22 : Value} (a22 : PySem.W.nsIn K mainGlobals "_law_slip" = some (some (.ref f22))) (l22 : K.lookup f22 = some ⟨oc22, od22, .func (PySem.W.fnOf "_law_slip" "_law_slip" (defArgs (topS 31)) (defBody (topS 31)) (defScope (topS 31)) .none kV22 dc22 pm22 an22 cd22 ct22), sl22⟩) (c22 : PySem.W.codeIn K cd22 "_law_slip" = true) (k22 : PySem.W.keepIn K (.ref f22) = true)
    {f23 : Addr} {od23 an23 : Option Addr} {sl23 : Array (Option Value)} {oc23 kV23 dc23 pm23 cd23 ct23 : Value} (a23 : PySem.W.nsIn K mainGlobals "_law_ends" = some (some (.ref f23))) (l23 : K.lookup f23 = some ⟨oc23, od23, .func (PySem.W.fnOf "_law_ends" "_law_ends" (defArgs (topS 32)) (defBody (topS 32)) (defScope (topS 32)) .none kV23 dc23 pm23 an23 cd23 ct23), sl23⟩) (c23 : PySem.W.codeIn K cd23 "_law_ends" = true) (k23 : PySem.W.keepIn K (.ref f23) = true)
    {f24 : Addr} {od24 an24 : Option Addr} {sl24 : Array (Option Value)} {oc24 kV24 dc24 pm24 cd24 ct24 : Value} (a24 : PySem.W.nsIn K mainGlobals "_law_kinds" = some (some (.ref f24))) (l24 : K.lookup f24 = some ⟨oc24, od24, .func (PySem.W.fnOf "_law_kinds" "_law_kinds" (defArgs (topS 33)) (defBody (topS 33)) (defScope (topS 33)) .none kV24 dc24 pm24 an24 cd24 ct24), sl24⟩) (c24 : PySem.W.codeIn K cd24 "_law_kinds" = true) (k24 : PySem.W.keepIn K (.ref f24) = true)
    {f25 : Addr} {od25 an25 : Option Addr} {sl25 : Array (Option Value)} {oc25 kV25 dc25 pm25 cd25 ct25 : Value} (a25 : PySem.W.nsIn K mainGlobals "_law_stages" = some (some (.ref f25))) (l25 : K.lookup f25 = some ⟨oc25, od25, .func (PySem.W.fnOf "_law_stages" "_law_stages" (defArgs (topS 34)) (defBody (topS 34)) (defScope (topS 34)) .none kV25 dc25 pm25 an25 cd25 ct25), sl25⟩) (c25 : PySem.W.codeIn K cd25 "_law_stages" = true) (k25 : PySem.W.keepIn K (.ref f25) = true)
    {f26 : Addr} {od26 an26 : Option Addr} {sl26 : Array (Option Value)} {oc26 kV26 dc26 pm26 cd26 ct26 : Value} (a26 : PySem.W.nsIn K mainGlobals "_law_near" = some (some (.ref f26))) (l26 : K.lookup f26 = some ⟨oc26, od26, .func (PySem.W.fnOf "_law_near" "_law_near" (defArgs (topS 35)) (defBody (topS 35)) (defScope (topS 35)) .none kV26 dc26 pm26 an26 cd26 ct26), sl26⟩) (c26 : PySem.W.codeIn K cd26 "_law_near" = true) (k26 : PySem.W.keepIn K (.ref f26) = true)
    {f27 : Addr} {od27 an27 : Option Addr} {sl27 : Array (Option Value)} {oc27 kV27 dc27 pm27 cd27 ct27 : Value} (a27 : PySem.W.nsIn K mainGlobals "_law_level" = some (some (.ref f27))) (l27 : K.lookup f27 = some ⟨oc27, od27, .func (PySem.W.fnOf "_law_level" "_law_level" (defArgs (topS 36)) (defBody (topS 36)) (defScope (topS 36)) .none kV27 dc27 pm27 an27 cd27 ct27), sl27⟩) (c27 : PySem.W.codeIn K cd27 "_law_level" = true) (k27 : PySem.W.keepIn K (.ref f27) = true)
    {f28 : Addr} {od28 an28 : Option Addr} {sl28 : Array (Option Value)} {oc28 kV28 dc28 pm28 cd28 ct28 : Value} (a28 : PySem.W.nsIn K mainGlobals "_law_good_table" = some (some (.ref f28))) (l28 : K.lookup f28 = some ⟨oc28, od28, .func (PySem.W.fnOf "_law_good_table" "_law_good_table" (defArgs (topS 37)) (defBody (topS 37)) (defScope (topS 37)) .none kV28 dc28 pm28 an28 cd28 ct28), sl28⟩) (c28 : PySem.W.codeIn K cd28 "_law_good_table" = true) (k28 : PySem.W.keepIn K (.ref f28) = true)
    {f29 : Addr} {od29 an29 : Option Addr} {sl29 : Array (Option Value)} {oc29 kV29 dc29 pm29 cd29 ct29 : Value} (a29 : PySem.W.nsIn K mainGlobals "_law_walks" = some (some (.ref f29))) (l29 : K.lookup f29 = some ⟨oc29, od29, .func (PySem.W.fnOf "_law_walks" "_law_walks" (defArgs (topS 38)) (defBody (topS 38)) (defScope (topS 38)) .none kV29 dc29 pm29 an29 cd29 ct29), sl29⟩) (c29 : PySem.W.codeIn K cd29 "_law_walks" = true) (k29 : PySem.W.keepIn K (.ref f29) = true)
    {f30 : Addr} {od30 an30 : Option Addr} {sl30 : Array (Option Value)} {oc30 kV30 dc30 pm30 cd30 ct30 : Value} (a30 : PySem.W.nsIn K mainGlobals "law" = some (some (.ref f30))) (l30 : K.lookup f30 = some ⟨oc30, od30, .func (PySem.W.fnOf "law" "law" (defArgs (topS 39)) (defBody (topS 39)) (defScope (topS 39)) .none kV30 dc30 pm30 an30 cd30 ct30), sl30⟩) (c30 : PySem.W.codeIn K cd30 "law" = true) (k30 : PySem.W.keepIn K (.ref f30) = true)
    (z0 : PySem.W.nsIn K mainGlobals "isinstance" = some none)
    (z1 : PySem.W.nsIn K mainGlobals "bool" = some none)
    (z2 : PySem.W.nsIn K mainGlobals "int" = some none)
    (z3 : PySem.W.nsIn K mainGlobals "set" = some none)
    (z4 : PySem.W.nsIn K mainGlobals "sorted" = some none)
    (z5 : PySem.W.nsIn K mainGlobals "sum" = some none)
    (z6 : PySem.W.nsIn K mainGlobals "range" = some none)
    (z7 : PySem.W.nsIn K mainGlobals "min" = some none)
    (z8 : PySem.W.nsIn K mainGlobals "len" = some none)
    (z9 : PySem.W.nsIn K mainGlobals "any" = some none)
    (z10 : PySem.W.nsIn K mainGlobals "list" = some none)
    (z11 : PySem.W.nsIn K mainGlobals "abs" = some none)
    (z12 : PySem.W.nsIn K mainGlobals "str" = some none)
    (z13 : PySem.W.nsIn K mainGlobals "tuple" = some none)
    (z14 : PySem.W.nsIn K mainGlobals "zip" = some none)
    (z15 : PySem.W.nsIn K mainGlobals "all" = some none)
    {xc0 : Addr} (xa0 : PySem.W.nsIn K mainGlobals "BadFleet" = some (some (.ref xc0))) (xb0 : PySem.W.subIn K (.ref xc0) (.type "BaseException") = some true) (xt0 : PySem.W.typeIn K (.ref xc0) = some (.type "type")) (yd0 : PySem.W.hasDictIn K xc0 = true) (xs0 : PySem.W.subIn K (.ref xc0) (.ref xc0) = some true)
    (xx0 : PySem.W.excIn K xc0 [.type "ValueError", .type "Exception", .type "BaseException", .type "object"] "ValueError.__new__" = true) (xk0 : PySem.W.keepIn K (.ref xc0) = true)
    {xc1 : Addr} (xa1 : PySem.W.nsIn K mainGlobals "BadNumber" = some (some (.ref xc1))) (xb1 : PySem.W.subIn K (.ref xc1) (.type "BaseException") = some true) (xt1 : PySem.W.typeIn K (.ref xc1) = some (.type "type")) (yd1 : PySem.W.hasDictIn K xc1 = true) (xs1 : PySem.W.subIn K (.ref xc1) (.ref xc1) = some true)
    (xx1 : PySem.W.excIn K xc1 [.type "ValueError", .type "Exception", .type "BaseException", .type "object"] "ValueError.__new__" = true) (xk1 : PySem.W.keepIn K (.ref xc1) = true)
    {tg0 : Tok} (gc0 : PySem.W.nsIn K mainGlobals "MOST_SLIP" = some (some (.int 12 tg0))) :
    ∃ fd : FuncData, (∀ (s : Shared) (v : Value), BindsTo s fd ⟨[v], []⟩ [("_law_script", v)]) ∧ ∀ base : Heap, K.In base → base.Ns mainGlobals mg → FnOk l.prog w K mg base (L2.CX l.prog w) 8 fa fd ["_law_script"] (spEnd K) := by
  have F0 := fun_mk (st := topS 6) l0 c0 k0
  have b0 := F0.binds (ps := ["thing"]) fun _ _ _ _ _ _ us hl => match us, hl with | [_], _ => rfl
  have F1 := fun_mk (st := topS 7) l1 c1 k1
  have b1 := F1.binds (ps := ["thing", "low", "high"]) fun _ _ _ _ _ _ us hl => match us, hl with | [_, _, _], _ => rfl
  have F2 := fun_mk (st := topS 8) l2 c2 k2
  have b2 := F2.binds (ps := ["thing"]) fun _ _ _ _ _ _ us hl => match us, hl with | [_], _ => rfl
  have F3 := fun_mk (st := topS 9) l3 c3 k3
  have b3 := F3.binds (ps := ["timbers"]) fun _ _ _ _ _ _ us hl => match us, hl with | [_], _ => rfl
  have F4 := fun_mk (st := topS 10) l4 c4 k4
  have b4 := F4.binds (ps := ["one", "other"]) fun _ _ _ _ _ _ us hl => match us, hl with | [_, _], _ => rfl
  have F5 := fun_mk (st := topS 11) l5 c5 k5
  have b5 := F5.binds (ps := ["one", "other"]) fun _ _ _ _ _ _ us hl => match us, hl with | [_, _], _ => rfl
  have F6 := fun_mk (st := topS 13) l6 c6 k6
  have b6 := F6.binds (ps := ["one", "other", "both"]) fun _ _ _ _ _ _ us hl => match us, hl with | [_, _, _], _ => rfl
  have F7 := fun_mk (st := topS 15) l7 c7 k7
  have b7 := F7.binds (ps := ["one", "other"]) fun _ _ _ _ _ _ us hl => match us, hl with | [_, _], _ => rfl
  have F8 := fun_mk (st := topS 16) l8 c8 k8
  have b8 := F8.binds (ps := ["start", "goal", "slip"]) fun _ _ _ _ _ _ us hl => match us, hl with | [_, _, _], _ => rfl
  have F9 := fun_mk (st := topS 17) l9 c9 k9
  have b9 := F9.binds (ps := ["kinds", "slip"]) fun _ _ _ _ _ _ us hl => match us, hl with | [_, _], _ => rfl
  have F10 := fun_mk (st := topS 18) l10 c10 k10
  have b10 := F10.binds (ps := ["kinds"]) fun _ _ _ _ _ _ us hl => match us, hl with | [_], _ => rfl
  have F11 := fun_mk (st := topS 19) l11 c11 k11
  have b11 := F11.binds (ps := ["kinds", "slip"]) fun _ _ _ _ _ _ us hl => match us, hl with | [_, _], _ => rfl
  have F12 := fun_mk (st := topS 20) l12 c12 k12
  have b12 := F12.binds (ps := ["start", "goal", "slip"]) fun _ _ _ _ _ _ us hl => match us, hl with | [_, _, _], _ => rfl
  have F13 := fun_mk (st := topS 21) l13 c13 k13
  have b13 := F13.binds (ps := ["start", "goal", "slip"]) fun _ _ _ _ _ _ us hl => match us, hl with | [_, _, _], _ => rfl
  have F14 := fun_mk (st := topS 22) l14 c14 k14
  have b14 := F14.binds (ps := ["boat", "kinds", "stage"]) fun _ _ _ _ _ _ us hl => match us, hl with | [_, _, _], _ => rfl
  have F15 := fun_mk (st := topS 23) l15 c15 k15
  have b15 := F15.binds (ps := ["start", "goal", "slip"]) fun _ _ _ _ _ _ us hl => match us, hl with | [_, _, _], _ => rfl
  have F16 := fun_mk (st := topS 25) l16 c16 k16
  have b16 := F16.binds (ps := ["_law_script"]) fun _ _ _ _ _ _ us hl => match us, hl with | [_], _ => rfl
  have F17 := fun_mk (st := topS 26) l17 c17 k17
  have b17 := F17.binds (ps := ["_law_draw", "_law_many"]) fun _ _ _ _ _ _ us hl => match us, hl with | [_, _], _ => rfl
  have F18 := fun_mk (st := topS 27) l18 c18 k18
  have b18 := F18.binds (ps := ["_law_found", "_law_due"]) fun _ _ _ _ _ _ us hl => match us, hl with | [_, _], _ => rfl
  have F19 := fun_mk (st := topS 28) l19 c19 k19
  have b19 := F19.binds (ps := ["_law_timbers"]) fun _ _ _ _ _ _ us hl => match us, hl with | [_], _ => rfl
  have F20 := fun_mk (st := topS 29) l20 c20 k20
  have b20 := F20.binds (ps := ["_law_one", "_law_other"]) fun _ _ _ _ _ _ us hl => match us, hl with | [_, _], _ => rfl
  have F21 := fun_mk (st := topS 30) l21 c21 k21
  have b21 := F21.binds (ps := ["_law_draw", "_law_pool", "_law_many"]) fun _ _ _ _ _ _ us hl => match us, hl with | [_, _, _], _ => rfl
  have F22 := fun_mk (st := topS 31) l22 c22 k22
  have b22 := F22.binds (ps := ["_law_draw"]) fun _ _ _ _ _ _ us hl => match us, hl with | [_], _ => rfl
  have F23 := fun_mk (st := topS 32) l23 c23 k23
  have b23 := F23.binds (ps := ["_law_draw", "_law_slip_here"]) fun _ _ _ _ _ _ us hl => match us, hl with | [_, _], _ => rfl
  have F24 := fun_mk (st := topS 33) l24 c24 k24
  have b24 := F24.binds (ps := ["_law_start", "_law_goal"]) fun _ _ _ _ _ _ us hl => match us, hl with | [_, _], _ => rfl
  have F25 := fun_mk (st := topS 34) l25 c25 k25
  have b25 := F25.binds (ps := ["_law_sorts", "_law_slip_here"]) fun _ _ _ _ _ _ us hl => match us, hl with | [_, _], _ => rfl
  have F26 := fun_mk (st := topS 35) l26 c26 k26
  have b26 := F26.binds (ps := ["_law_one", "_law_other"]) fun _ _ _ _ _ _ us hl => match us, hl with | [_, _], _ => rfl
  have F27 := fun_mk (st := topS 36) l27 c27 k27
  have b27 := F27.binds (ps := ["_law_one", "_law_other"]) fun _ _ _ _ _ _ us hl => match us, hl with | [_, _], _ => rfl
  have F28 := fun_mk (st := topS 37) l28 c28 k28
  have b28 := F28.binds (ps := ["_law_sorts", "_law_slip_here", "_law_table"]) fun _ _ _ _ _ _ us hl => match us, hl with | [_, _, _], _ => rfl
  have F29 := fun_mk (st := topS 38) l29 c29 k29
  have b29 := F29.binds (ps := ["_law_start", "_law_goal", "_law_slip_here", "_law_plan"]) fun _ _ _ _ _ _ us hl => match us, hl with | [_, _, _, _], _ => rfl
  have F30 := fun_mk (st := topS 39) l30 c30 k30
  have b30 := F30.binds (ps := ["_law_script"]) fun _ _ _ _ _ _ us hl => match us, hl with | [_], _ => rfl
  have T : Tx K mg := ⟨⟨_, _, F0, b0, PySem.W.mg_of X G a0⟩, ⟨_, _, F1, b1, PySem.W.mg_of X G a1⟩, ⟨_, _, F2, b2, PySem.W.mg_of X G a2⟩, ⟨_, _, F3, b3, PySem.W.mg_of X G a3⟩, ⟨_, _, F4, b4, PySem.W.mg_of X G a4⟩, ⟨_, _, F5, b5, PySem.W.mg_of X G a5⟩, ⟨_, _, F6, b6, PySem.W.mg_of X G a6⟩, ⟨_, _, F7, b7, PySem.W.mg_of X G a7⟩, ⟨_, _, F8, b8, PySem.W.mg_of X G a8⟩, ⟨_, _, F9, b9, PySem.W.mg_of X G a9⟩, ⟨_, _, F10, b10, PySem.W.mg_of X G a10⟩, ⟨_, _, F11, b11, PySem.W.mg_of X G a11⟩, ⟨_, _, F12, b12, PySem.W.mg_of X G a12⟩, ⟨_, _, F13, b13, PySem.W.mg_of X G a13⟩, ⟨_, _, F14, b14, PySem.W.mg_of X G a14⟩, ⟨_, _, F15, b15, PySem.W.mg_of X G a15⟩, ⟨_, _, F16, b16, PySem.W.mg_of X G a16⟩, ⟨_, _, F17, b17, PySem.W.mg_of X G a17⟩, ⟨_, _, F18, b18, PySem.W.mg_of X G a18⟩, ⟨_, _, F19, b19, PySem.W.mg_of X G a19⟩, ⟨_, _, F20, b20, PySem.W.mg_of X G a20⟩, ⟨_, _, F21, b21, PySem.W.mg_of X G a21⟩, ⟨_, _, F22, b22, PySem.W.mg_of X G a22⟩, ⟨_, _, F23, b23, PySem.W.mg_of X G a23⟩, ⟨_, _, F24, b24, PySem.W.mg_of X G a24⟩, ⟨_, _, F25, b25, PySem.W.mg_of X G a25⟩, ⟨_, _, F26, b26, PySem.W.mg_of X G a26⟩, ⟨_, _, F27, b27, PySem.W.mg_of X G a27⟩, ⟨_, _, F28, b28, PySem.W.mg_of X G a28⟩, ⟨_, _, F29, b29, PySem.W.mg_of X G a29⟩, ⟨_, _, F30, b30, PySem.W.mg_of X G a30⟩, PySem.W.mg_none_of X G z0, PySem.W.mg_none_of X G z1, PySem.W.mg_none_of X G z2, PySem.W.mg_none_of X G z3, PySem.W.mg_none_of X G z4, PySem.W.mg_none_of X G z5, PySem.W.mg_none_of X G z6, PySem.W.mg_none_of X G z7, PySem.W.mg_none_of X G z8, PySem.W.mg_none_of X G z9, PySem.W.mg_none_of X G z10, PySem.W.mg_none_of X G z11, PySem.W.mg_none_of X G z12, PySem.W.mg_none_of X G z13, PySem.W.mg_none_of X G z14, PySem.W.mg_none_of X G z15, ⟨_, (PySem.W.mg_of X G xa0), xx0, xk0, xb0, xt0⟩, ⟨_, (PySem.W.mg_of X G xa1), xx1, xk1, xb1, xt1⟩, ⟨_, PySem.W.mg_of X G gc0⟩⟩
  have e := hfa.symm.trans (PySem.W.mg_of X G a30)
  cases e
  exact ⟨PySem.W.fnOf "law" "law" (defArgs (topS 39)) (defBody (topS 39)) (defScope (topS 39)) .none kV30 dc30 pm30 an30 cd30 ct30, fun s v => .of_eq rfl, fun base _ _ => law_fn (f := m_law) (fn_okE (by decide) F30 sc_law rfl (pr_law T 0 _)) law_true⟩
end Ar
namespace Ar
open PySem PySem.Spec PyProof.Rows L2
theorem take_ok (d : Dr) (m : Int) (h1 : 0 < m) (h2 : m < 1000000000000000000000000000000) :
    m_law_take [.l (drL d), .z (.int m)] = .ok (.z (.int (d.take m).1)) [.l (drL (d.take m).2), .z (.int m)] := by
  have hb := natAbs_big h1 h2
  unfold m_law_take b_law_take
  by_cases c1 : d.got < m ∧ d.at_ < d.cells.length
  · have c1' : (d.at_ : Int) < d.cells.length := by have := c1.2; omega
    have hc : d.cells[d.at_]? = some (d.cells.getD d.at_ 0) := by
      rw [List.getD_eq_getElem?_getD, List.getElem?_eq_getElem c1.2]; rfl
    generalize hx : d.cells.getD d.at_ 0 = x at hc
    by_cases c2 : (1000000000000000000 : Int) ≤ (if x < 0 then -x else x)
    · have e : d.step m = ⟨d.cells, d.at_ + 1, (if x < 0 then -x else x), d.seed⟩ := by
        unfold Dr.step; rw [if_pos c1]; dsimp only; rw [hx, if_pos c2]
      by_cases c3 : m ≤ (if x < 0 then -x else x)
      · simp -implicitDefEqProofs [drL, Dr.take, e, c1.1, c1', hc, small_10, c2, c3, h1, hb]
      · simp -implicitDefEqProofs [drL, Dr.take, e, c1.1, c1', hc, small_10, c2, c3, h1, hb, small_16807]
    · have e : d.step m = ⟨d.cells, d.at_ + 1, 0, (d.seed * 48271 + x % 2147483629 * 69621 + 12345) % 2147483647⟩ := by
        unfold Dr.step; rw [if_pos c1]; dsimp only; rw [hx, if_neg c2]
      have c3 : ¬ m ≤ 0 := by omega
      simp -implicitDefEqProofs [drL, Dr.take, e, c1.1, c1', hc, small_10, c2, c3, h1, hb, small_16807, small_48271, small_69621]
  · have e : d.step m = d := by unfold Dr.step; rw [if_neg c1]
    have c1' : ¬ (d.got < m ∧ (d.at_ : Int) < d.cells.length) := fun q => c1 ⟨q.1, by omega⟩
    by_cases c3 : m ≤ d.got
    · have c4 : ¬ d.got < m := by omega
      simp -implicitDefEqProofs [drL, Dr.take, e, small_10, c3, c4, h1, hb]
    · have c4 : d.got < m := by omega
      have c5 : ¬ (d.at_ : Int) < d.cells.length := fun q => c1' ⟨c4, q⟩
      have c6 : ¬ d.at_ < d.cells.length := fun q => c1 ⟨c4, q⟩
      simp -implicitDefEqProofs [drL, Dr.take, e, small_10, c3, c4, c5, c6, h1, hb, small_16807]

theorem begin_ok (ns : List Int) : m_law_begin [.z (.scr ns)] = .ok (.l (drL (beginD ns))) [.z (.scr ns)] := by
  unfold m_law_begin b_law_begin
  simp -implicitDefEqProofs [drL, beginD, cut_to]
theorem set_ok (t : T) (l : List Int) (h : t.vw = some (.lst (nD l))) (hl : l.length < 64) : m_law_set [t] = .ok (.l (nT (isort (ddp l)))) [t] := by
  have h2 := ddp_length l
  have h3 : (ddp l).length < 64 := by omega
  have h4 : l.length < 4000 := by omega
  unfold m_law_set b_law_set
  simp -implicitDefEqProofs [h, h3, h4]
theorem same_turns (fu : Nat) (a b : D) (l : List D) (ih : ∀ d ∈ l, m_law_same fu [.z d, .z d] = .ok (.z (.bl true)) [.z d, .z d]) :
    compR [2, 3] (Tg.t [.n 2, .n 3]).put (M.ret true) (zT (callM (m_law_same fu) [none, none] (argEx (rdz 2) (argEx (rdz 3) (M.ret []))))) (l.map fun d => D.tup [d, d]) [.z a, .z b, .gone, .gone] =
      .ok (List.replicate l.length (.bl true)) [.z a, .z b, .gone, .gone] := by
  rw [compR_pure (ts0 := [.z a, .z b, .gone, .gone]) (fun _ => some (.bl true)) (by simp) fun d hd => by
    obtain ⟨e, he, rfl⟩ := List.mem_map.mp hd
    simp -implicitDefEqProofs [ih e he]]
  congr 1
  induction l with
  | nil => rfl
  | cons x l ih2 =>
    show D.bl true :: List.filterMap (fun _ => some (D.bl true)) (l.map fun d => D.tup [d, d]) = _
    rw [ih2 fun d hd => ih d (List.mem_cons_of_mem _ hd)]
    rfl
theorem same_ok : ∀ (fu : Nat) (d : D), okm fu d = true → m_law_same (fu + 1) [.z d, .z d] = .ok (.z (.bl true)) [.z d, .z d]
  | fu, .non, _ => by unfold m_law_same; simp
  | fu, .bl b, _ => by unfold m_law_same; simp
  | fu, .int b, _ => by unfold m_law_same; simp
  | fu, .str b, h => by
    have h' : PyData.strOk b = true := by cases fu <;> exact h
    have e : oEq (.str b) (.str b) = some (.z (.bl true)) := oEq_refl (k := 0) h' (by omega)
    unfold m_law_same; simp -implicitDefEqProofs [e]
  | fu + 1, .lst l, h => by
    have h' : (decide (l.length ≤ 1000000) && l.all (okm fu)) = true := h
    rw [Bool.and_eq_true, decide_eq_true_eq, List.all_eq_true] at h'
    have e := same_turns (fu + 1) (.lst l) (.lst l) l fun d hd => same_ok fu d (h'.2 d hd)
    unfold m_law_same
    simp -implicitDefEqProofs [zip2, zipD_self, e, h'.1, oAll_rep]
  | fu + 1, .tup l, h => by
    have h' : (decide (l.length ≤ 1000000) && l.all (okm fu)) = true := h
    rw [Bool.and_eq_true, decide_eq_true_eq, List.all_eq_true] at h'
    have e := same_turns (fu + 1) (.tup l) (.tup l) l fun d hd => same_ok fu d (h'.2 d hd)
    unfold m_law_same
    simp -implicitDefEqProofs [zip2, zipD_self, e, h'.1, oAll_rep]
  | 0, .lst l, h => nomatch h
  | 0, .tup l, h => nomatch h
  | 0, .dk l, h => nomatch h
  | 0, .dt l, h => nomatch h
  | 0, .st l, h => nomatch h
  | 0, .scr l, h => nomatch h
  | 0, .fn l, h => nomatch h
  | 0, .ob c l, h => nomatch h
  | k + 1, .dk l, h => nomatch h
  | k + 1, .dt l, h => nomatch h
  | k + 1, .st l, h => nomatch h
  | k + 1, .scr l, h => nomatch h
  | k + 1, .fn l, h => nomatch h
  | k + 1, .ob c l, h => nomatch h

theorem rising_ok (t : T) (l : List Int) (h : t.vw = some (.lst (nD l))) (hl : l.length < 64) : m_rising [t] = .ok (.l (nT (isort (ddp l)))) [t] := by
  have h2 := ddp_length l
  have h3 : (ddp l).length < 64 := by omega
  have h4 : l.length < 4000 := by omega
  unfold m_rising b_rising
  simp -implicitDefEqProofs [h, h3, h4]
/-! the law's own equality -/
theorem common_ok (a b : List Int) (ha : a.length < 64) : m_common [.z (.lst (nD a)), .z (.lst (nD b))] = .ok (.l (nT ((isort (ddp a)).filter fun x => decide (x ∈ b)))) [.z (.lst (nD a)), .z (.lst (nD b))] := by
  have h1 := rising_ok (.z (.lst (nD a))) a rfl ha
  have h2 : compR [2] (Tg.n 2).put (tsB (binA oIn (see (seeN 2)) (seeN 1))) (zT (rdz 2)) (nD (isort (ddp a))) [T.z (D.lst (nD a)), T.z (D.lst (nD b)), T.gone] = .ok (nD ((isort (ddp a)).filter fun x => decide (x ∈ b))) [T.z (D.lst (nD a)), T.z (D.lst (nD b)), T.gone] :=
    compR_filt _ (by simp) fun x hx => by by_cases h : x ∈ b <;> simp -implicitDefEqProofs [h]
  have h3 : ((isort (ddp a)).filter fun x => decide (x ∈ b)).length ≤ 1000000 := by
    have := List.length_filter_le (fun x => decide (x ∈ b)) (isort (ddp a))
    have := (isort_perm (ddp a)).length_eq
    have := ddp_length a
    omega
  unfold m_common b_common
  simp -implicitDefEqProofs [h1, h2, h3]

theorem apart_ok (a b : List Int) (ha : a.length < 64) : m_apart [.z (.lst (nD a)), .z (.lst (nD b))] = .ok (.l (nT ((isort (ddp a)).filter fun x => !decide (x ∈ b)))) [.z (.lst (nD a)), .z (.lst (nD b))] := by
  have h1 := rising_ok (.z (.lst (nD a))) a rfl ha
  have h2 : compR [2] (Tg.n 2).put (tsB (binA oNotIn (see (seeN 2)) (seeN 1))) (zT (rdz 2)) (nD (isort (ddp a))) [T.z (D.lst (nD a)), T.z (D.lst (nD b)), T.gone] = .ok (nD ((isort (ddp a)).filter fun x => !decide (x ∈ b))) [T.z (D.lst (nD a)), T.z (D.lst (nD b)), T.gone] :=
    compR_filt _ (by simp) fun x hx => by by_cases h : x ∈ b <;> simp -implicitDefEqProofs [h]
  have h3 : ((isort (ddp a)).filter fun x => !decide (x ∈ b)).length ≤ 1000000 := by
    have := List.length_filter_le (fun x => !decide (x ∈ b)) (isort (ddp a))
    have := (isort_perm (ddp a)).length_eq
    have := ddp_length a
    omega
  unfold m_apart b_apart
  simp -implicitDefEqProofs [h1, h2, h3]
theorem some_loop (p m : T) : ∀ (ds : List D) (d : Dr) (left found : List Int) (u : T), ds.length ≤ left.length → found.length + left.length < 1000000 →
    ∃ (d' : Dr) (left' found' : List Int) (u' : T), loopS (Tg.n 5).put (sq (exprS (appM 4 (popM 3 (zT (callM m_law_take [some 0, none] (argTk 0 (argEx (fzM (lendM (un1 oLen (see (seeN 3))))) (M.ret [])))))))) RS.nx) ds [.l (drL d), p, m, .l (nT left), .l (nT found), u] =
      .nx [.l (drL d'), p, m, .l (nT left'), .l (nT found'), u'] ∧ found'.length = found.length + ds.length ∧ (found' ++ left').Perm (found ++ left)
  | [], d, left, found, u, _, _ => ⟨d, left, found, u, rfl, rfl, List.Perm.refl _⟩
  | x :: ds, d, left, found, u, h1, h2 => by
    rw [List.length_cons] at h1
    have hp : (0 : Int) < left.length := by omega
    have hq : (left.length : Int) < 1000000000000000000000000000000 := by omega
    have k0 := take_lo d hp
    have k1 := take_hi d hp
    generalize hr : (d.take left.length).1 = r at k0 k1
    generalize hd : (d.take left.length).2 = d1
    have ht := take_ok d left.length hp hq
    rw [hr, hd] at ht
    have hl : r.toNat < left.length := by omega
    have hx : (nT left)[r.toNat]? = some (.z (.int left[r.toNat])) := by rw [nT_get, List.getElem?_eq_getElem hl]; rfl
    have hpop : ∀ S : List T, poD 3 r S (some (.l (nT left))) = .ok (.z (.int left[r.toNat])) (S.set 3 (.l ((nT left).eraseIdx r.toNat))) := fun S => poD_l k0 (by omega) hx
    have he : (left.eraseIdx r.toNat).length = left.length - 1 := List.length_eraseIdx_of_lt hl
    have hf : found.length < 1000000 := by omega
    obtain ⟨d', left', found', u', e1, e2, e3⟩ := some_loop p m ds d1 (left.eraseIdx r.toNat) (found ++ [left[r.toNat]]) (.z x) (by omega) (by rw [List.length_append]; simp only [List.length_cons, List.length_nil]; omega)
    refine ⟨d', left', found', u', ?_, ?_, ?_⟩
    · rw [loopS_cons, ← e1]
      simp -implicitDefEqProofs [ht, hpop, hf]
    · rw [e2, List.length_append, List.length_cons]
      simp only [List.length_cons, List.length_nil]
      omega
    · refine e3.trans ?_
      rw [List.append_assoc]
      exact List.Perm.append_left _ (perm_erase left _ hl)
theorem some_ok (d : Dr) (pool : List Int) (many : Int) (h1 : pool.length < 100000) (h0 : -1000000 ≤ many) :
    ∃ (l : List Int) (d' : Dr), m_law_some [.l (drL d), .z (.lst (nD pool)), .z (.int many)] = .ok (.l (nT l)) [.l (drL d'), .z (.lst (nD pool)), .z (.int many)] ∧ l.length = min many.toNat pool.length ∧ ∃ rest, (l ++ rest).Perm pool := by
  have hmn := mnI_eq many pool.length
  generalize hj : mnI many pool.length = j at hmn
  have hj1 : j ≤ pool.length := by omega
  have hj2 : j.toNat = min many.toNat pool.length := by omega
  have hbig : big62 j := ⟨by omega, by omega⟩
  obtain ⟨d', left', found', u', e1, e2, e3⟩ := some_loop (.z (.lst (nD pool))) (.z (.int many)) (upto 0 j) d pool [] .gone (by rw [upto_length]; omega) (by simp; omega)
  refine ⟨found', d', ?_, ?_, left', ?_⟩
  · unfold m_law_some b_law_some
    rw [upto_nD] at e1
    have e1' : loopS (Tg.n 5).put (sq (exprS (appM 4 (popM 3 (zT (callM m_law_take [some 0, none] (argTk 0 (argEx (fzM (lendM (un1 oLen (see (seeN 3))))) (M.ret [])))))))) RS.nx) (nD (uI 0 j)) [.l (drL d), .z (.lst (nD pool)), .z (.int many), .l (nT pool), .l [], .gone] = _ := e1
    simp -implicitDefEqProofs [hj, hbig, e1']
  · rw [e2, upto_length, List.length_nil]; omega
  · simpa using e3
theorem slip_ok (d : Dr) : ∃ (s : Int) (d' : Dr), m_law_slip [.l (drL d)] = .ok (.z (.int s)) [.l (drL d')] ∧ 1 ≤ s ∧ s ≤ 12 := by
  have a0 := take_lo d (m := 12) (by omega)
  have a1 := take_hi d (m := 12) (by omega)
  generalize ha : (d.take 12).1 = a at a0 a1
  generalize hd : (d.take 12).2 = d1
  have b0 := take_lo d1 (m := 4) (by omega)
  have b1 := take_hi d1 (m := 4) (by omega)
  generalize hb : (d1.take 4).1 = b at b0 b1
  generalize hd1 : (d1.take 4).2 = d2
  have k0 := take_lo d2 (m := 3) (by omega)
  have k1 := take_hi d2 (m := 3) (by omega)
  generalize hr : (d2.take 3).1 = r at k0 k1
  obtain ⟨m, hm, hlo, hhi⟩ : ∃ m : Int, atI [D.int (1 + a), D.int (3 + b), D.int 12] r = some (.int m) ∧ 1 ≤ m ∧ m ≤ 12 := by
    rcases at3 (D.int (1 + a)) (D.int (3 + b)) (D.int 12) k0 k1 with h | h | h
    · exact ⟨_, h, by omega, by omega⟩
    · exact ⟨_, h, by omega, by omega⟩
    · exact ⟨_, h, by omega, by omega⟩
  refine ⟨m, (d2.take 3).2, ?_, hlo, hhi⟩
  unfold m_law_slip b_law_slip
  simp -implicitDefEqProofs [take_ok, ha, hd, hb, hd1, hr, hm]
theorem like_ok (t1 t2 : T) (a b : List Int) (ha : a.length < 64) (hb : b.length < 64) (h1 : t1 = .z (.lst (nD a)) ∨ t1 = .z (.tup (nD a))) (h2 : t2 = .z (.lst (nD b)) ∨ t2 = .z (.tup (nD b))) : m_law_like [t1, t2] = .ok (.z (.bl (smI a b))) [t1, t2] := by
  have e1 : m_law_set [t1] = .ok (.l (nT (isort (ddp a)))) [t1] := by
    have g1 := ddp_length a
    have a5 : (ddp a).length < 64 := by omega
    have a6 : a.length < 4000 := by omega
    unfold m_law_set b_law_set
    rcases h1 with rfl | rfl <;> simp -implicitDefEqProofs [a5, a6]
  have g1 := ddp_length a
  have g2 := ddp_length b
  have a4 : a.length < 4000 := by omega
  have b4 : b.length < 4000 := by omega
  have a5 : (ddp a).length < 4000 := by omega
  have b5 : (ddp b).length < 4000 := by omega
  have s2 : small 2 := by decide
  have c1 : compR [3] (Tg.n 3).put (tsB (binA oIn (see (seeN 3)) (seeN 1))) (zT (rdz 3)) (nD (isort (ddp a))) [t1, t2, .gone, .gone] = .ok (nD ((isort (ddp a)).filter fun x => decide (x ∈ b))) [t1, t2, .gone, .gone] :=
    compR_filt _ (by simp) fun x hx => by rcases h2 with rfl | rfl <;> by_cases h : x ∈ b <;> simp -implicitDefEqProofs [h]
  have hl : ((isort (ddp a)).filter fun x => decide (x ∈ b)).length ≤ 1000000 := by
    have := List.length_filter_le (fun x => decide (x ∈ b)) (isort (ddp a))
    have := rise_length a
    omega
  unfold m_law_like b_law_like smI alkB
  have r1 := rise_length a
  have r2 := rise_length b
  unfold rnI mcI
  rw [r1, r2]
  generalize ((isort (ddp a)).filter fun x => decide (x ∈ b)) = C at *
  by_cases h : (ddp a).length < 2 * C.length
  · have h' : ((ddp a).length : Int) < 2 * C.length := by omega
    have e : decide (((ddp b).length : Int) < 2 * C.length) = decide ((ddp b).length < 2 * C.length) := decide_eq_decide.mpr (by omega)
    rcases h1 with rfl | rfl <;> rcases h2 with rfl | rfl <;> simp -implicitDefEqProofs [e1, c1, hl, s2, a4, b4, a5, b5, h', h, e]
  · have h' : ¬ ((ddp a).length : Int) < 2 * C.length := by omega
    rcases h1 with rfl | rfl <;> rcases h2 with rfl | rfl <;> simp -implicitDefEqProofs [e1, c1, hl, s2, a4, b4, a5, b5, h', h]
theorem alike_ok (n m k : Nat) : m_alike [.z (.int n), .z (.int m), .z (.int k)] = .ok (.z (.bl (alkB n m k))) [.z (.int n), .z (.int m), .z (.int k)] := by
  have s2 : small 2 := by decide
  unfold m_alike b_alike
  by_cases h : n < 2 * k
  · have h' : (n : Int) < 2 * k := by omega
    have e : decide ((m : Int) < 2 * k) = decide (m < 2 * k) := decide_eq_decide.mpr (by omega)
    simp -implicitDefEqProofs [s2, h', alkB, h, e]
  · have h' : ¬ (n : Int) < 2 * k := by omega
    simp -implicitDefEqProofs [s2, h', alkB, h]
theorem between_ok (t lo hi : Int) : m_between [.z (.int t), .z (.int lo), .z (.int hi)] = .ok (.z (.bl (decide (lo ≤ t) && decide (t ≤ hi)))) [.z (.int t), .z (.int lo), .z (.int hi)] := by
  have e0 : m_is_number [.z (.int t)] = .ok (.z (.bl true)) [.z (.int t)] := by unfold m_is_number b_is_number; simp
  unfold m_between b_between
  by_cases h : lo ≤ t
  · simp -implicitDefEqProofs [e0, h]
  · simp -implicitDefEqProofs [e0, h]
theorem is_slip_ok (s : Int) : m_is_slip [.z (.int s)] = .ok (.z (.bl (decide (1 ≤ s) && decide (s ≤ 12)))) [.z (.int s)] := by
  have e := between_ok s 1 12
  unfold m_is_slip b_is_slip
  simp -implicitDefEqProofs [e]
def nN (l : List Nat) : List Int := l.map fun (k : Nat) => (k : Int)
@[simp] theorem nN_length (l) : (nN l).length = l.length := List.length_map _
theorem nN_cons (a l) : nN (a :: l) = (a : Int) :: nN l := rfl
theorem uI0 (n : Nat) : uI 0 (n : Int) = nN (List.range n) := by unfold uI nN; rw [Int.sub_zero, Int.toNat_natCast]; simp
theorem uI1 (n : Nat) : uI 1 ((n : Int) + 1) = nN ((List.range n).map (· + 1)) := by
  unfold uI nN
  rw [show ((n : Int) + 1 - 1).toNat = n by omega, List.map_map]
  refine List.map_congr_left fun k _ => ?_
  show (1 : Int) + k = ((k + 1 : Nat) : Int)
  omega
theorem loop_up {put : D → List T → Option (List T)} {body : S} (I : Nat → List T → Prop) (n : Nat) (step : ∀ k ts, k < n → I k ts → ∃ ts', lTurn put body (.int (k : Nat)) ts = .nx ts' ∧ I (k + 1) ts') :
    ∀ (m i : Nat) (ts : List T), i + m = n → I i ts → ∃ ts', loopS put body ((List.range' i m).map fun k : Nat => D.int k) ts = .nx ts' ∧ I n ts'
  | 0, i, ts, e, h => ⟨ts, rfl, by have : i = n := by omega
                                   rw [← this]; exact h⟩
  | m + 1, i, ts, e, h => by
    obtain ⟨ts1, e1, h1⟩ := step i ts (by omega) h
    obtain ⟨ts2, e2, h2⟩ := loop_up I n step m (i + 1) ts1 (by omega) h1
    refine ⟨ts2, ?_, h2⟩
    rw [List.range'_succ, List.map_cons, loopS_cons, e1, lp_nx, e2]
theorem nD_up (n : Nat) : nD (uI 0 (n : Int)) = (List.range' 0 n).map fun k : Nat => D.int k := by
  unfold nD uI
  rw [Int.sub_zero, Int.toNat_natCast, List.map_map, List.range_eq_range']
  refine List.map_congr_left fun k _ => ?_
  show D.int (0 + (k : Int)) = _
  rw [Int.zero_add]
def rs (a : List Int) : List Int := isort (ddp a)
theorem rs_rs (a : List Int) : isort (ddp (rs a)) = rs a := isort_eq fun x => mem_rise
theorem rs_len (a : List Int) : (rs a).length ≤ a.length := by unfold rs; rw [rise_length]; exact ddp_length a
theorem mem_rs {x : Int} {a : List Int} : x ∈ rs a ↔ x ∈ a := mem_rise
theorem rs_nodup (a : List Int) : (rs a).Nodup := rise_nodup a
/-! stages -/
abbrev Sg := Nat × Nat × Nat
def sgD (s : Sg) : D := .tup [.int s.1, .int s.2.1, .int s.2.2]
def sgK (s : Sg) : List Key := [.inl s.1, .inl s.2.1, .inl s.2.2]
def smS (s : Sg) : Nat := s.1 + s.2.1 + s.2.2
def miS (s t : Sg) : Nat := min s.1 t.1 + min s.2.1 t.2.1 + min s.2.2 t.2.2
def nr (s t : Sg) : Bool := alkB (smS s) (smS t) (miS s t)
theorem nr_comm (s t : Sg) : nr s t = nr t s := by
  unfold nr alkB miS
  rw [Nat.min_comm t.1, Nat.min_comm t.2.1, Nat.min_comm t.2.2, Bool.and_comm]
theorem tkey_sg (s : Sg) : D.tkey (sgD s) = some (sgK s) := rfl
theorem sgK_inj {s t : Sg} (h : sgK s = sgK t) : s = t := by
  obtain ⟨a, b, c⟩ := s
  obtain ⟨x, y, z⟩ := t
  unfold sgK at h
  simp only [List.cons.injEq, Sum.inl.injEq, and_true] at h
  obtain ⟨h1, h2, h3⟩ := h
  have : a = x := by omega
  have : b = y := by omega
  have : c = z := by omega
  subst_vars; rfl
def rowS (c x y : Nat) : List Sg := (List.range (c + 1)).map fun z => (x, y, z)
def plnS (c x k : Nat) : List Sg := (List.range k).flatMap (rowS c x)
def boxS (b c k : Nat) : List Sg := (List.range k).flatMap fun x => plnS c x (b + 1)
def fullS (a b c : Nat) : List Sg := boxS b c (a + 1)
theorem pln_succ (c x k : Nat) : plnS c x (k + 1) = plnS c x k ++ rowS c x k := by
  unfold plnS
  rw [List.range_succ, List.flatMap_append, List.flatMap_cons, List.flatMap_nil, List.append_nil]
theorem box_succ (b c k : Nat) : boxS b c (k + 1) = boxS b c k ++ plnS c k (b + 1) := by
  unfold boxS
  rw [List.range_succ, List.flatMap_append, List.flatMap_cons, List.flatMap_nil, List.append_nil]
theorem row_len (c x y : Nat) : (rowS c x y).length = c + 1 := by unfold rowS; rw [List.length_map, List.length_range]
theorem flat_len_c {α β : Type} (f : α → List β) (m : Nat) : ∀ l : List α, (∀ x ∈ l, (f x).length = m) → (l.flatMap f).length = l.length * m
  | [], _ => by simp
  | x :: l, h => by rw [List.flatMap_cons, List.length_append, h x List.mem_cons_self, flat_len_c f m l fun y hy => h y (List.mem_cons_of_mem _ hy), List.length_cons, Nat.succ_mul, Nat.add_comm]
theorem pln_len (c x k : Nat) : (plnS c x k).length = k * (c + 1) := by
  unfold plnS
  rw [flat_len_c _ (c + 1) _ fun y _ => row_len c x y, List.length_range]
theorem box_len (b c k : Nat) : (boxS b c k).length = k * ((b + 1) * (c + 1)) := by
  unfold boxS
  rw [flat_len_c _ ((b + 1) * (c + 1)) _ fun x _ => pln_len c x (b + 1), List.length_range]
def okS (slip : Nat) (s : Sg) : Bool := decide (1 ≤ smS s) && decide (smS s ≤ slip)
def stgS (a b c slip : Nat) : List Sg := (fullS a b c).filter (okS slip)
theorem full_mem {a b c : Nat} {s : Sg} : s ∈ fullS a b c ↔ s.1 ≤ a ∧ s.2.1 ≤ b ∧ s.2.2 ≤ c := by
  unfold fullS boxS
  rw [List.mem_flatMap]
  constructor
  · rintro ⟨x, hx, h⟩
    unfold plnS at h
    rw [List.mem_flatMap] at h
    obtain ⟨y, hy, h⟩ := h
    unfold rowS at h
    obtain ⟨z, hz, rfl⟩ := List.mem_map.mp h
    rw [List.mem_range] at hx hy hz
    simp only
    omega
  · intro ⟨h1, h2, h3⟩
    refine ⟨s.1, by rw [List.mem_range]; omega, ?_⟩
    unfold plnS
    rw [List.mem_flatMap]
    refine ⟨s.2.1, by rw [List.mem_range]; omega, ?_⟩
    exact List.mem_map.mpr ⟨s.2.2, by rw [List.mem_range]; omega, rfl⟩
theorem nodup_flat {α β : Type} (f : α → List β) (k : β → α) (hk : ∀ x, ∀ y ∈ f x, k y = x) : ∀ l : List α, l.Nodup → (∀ x ∈ l, (f x).Nodup) → (l.flatMap f).Nodup
  | [], _, _ => by simp
  | x :: l, h, g => by
    obtain ⟨h1, h2⟩ := List.nodup_cons.mp h
    rw [List.flatMap_cons, List.nodup_append]
    refine ⟨g x List.mem_cons_self, nodup_flat f k hk l h2 fun y hy => g y (List.mem_cons_of_mem _ hy), fun a ha b hb e => ?_⟩
    subst e
    rw [List.mem_flatMap] at hb
    obtain ⟨y, hy, hb⟩ := hb
    have e1 := hk x a ha
    have e2 := hk y a hb
    rw [e1] at e2
    subst e2
    exact h1 hy
theorem full_nodup (a b c : Nat) : (fullS a b c).Nodup := by
  unfold fullS boxS
  refine nodup_flat _ (fun s => s.1) ?_ _ List.nodup_range fun x _ => nodup_flat _ (fun s => s.2.1) ?_ _ List.nodup_range fun y _ => ?_
  · intro x s hs
    unfold plnS at hs
    rw [List.mem_flatMap] at hs
    obtain ⟨y, _, hs⟩ := hs
    obtain ⟨z, _, rfl⟩ := List.mem_map.mp hs
    rfl
  · intro y s hs
    obtain ⟨z, _, rfl⟩ := List.mem_map.mp hs
    rfl
  · refine List.Pairwise.map _ ?_ List.nodup_range
    intro z z' h e
    injection e with _ e
    injection e with _ e
    exact h e
theorem full_len (a b c : Nat) : (fullS a b c).length = (a + 1) * ((b + 1) * (c + 1)) := box_len b c (a + 1)
theorem stg_len {a b c slip : Nat} (ha : a ≤ 12) (hb : b ≤ 12) (hc : c ≤ 12) : (stgS a b c slip).length ≤ 2197 := by
  have h := List.length_filter_le (okS slip) (fullS a b c)
  rw [full_len] at h
  have h2 : (b + 1) * (c + 1) ≤ 13 * 13 := Nat.mul_le_mul (by omega) (by omega)
  have h3 : (a + 1) * ((b + 1) * (c + 1)) ≤ 13 * (13 * 13) := Nat.mul_le_mul (by omega) h2
  unfold stgS
  omega
theorem stg_nodup (a b c slip : Nat) : (stgS a b c slip).Nodup := (full_nodup a b c).filter _
def sgT (F : List Sg) : List T := F.map fun s => T.z (sgD s)
def sgsD (F : List Sg) : List D := F.map sgD
theorem sgT_eq (F : List Sg) : sgT F = (sgsD F).map T.z := by unfold sgT sgsD; rw [List.map_map]; rfl
theorem sgT_snoc (F : List Sg) (s : Sg) : sgT F ++ [.z (sgD s)] = sgT (F ++ [s]) := by unfold sgT; rw [List.map_append]; rfl
theorem sgT_len (F : List Sg) : (sgT F).length = F.length := List.length_map _
theorem sgsD_len (F : List Sg) : (sgsD F).length = F.length := List.length_map _
/-! the three kinds, as handed on -/
def kD3 (K0 K1 K2 : List Int) : D := .tup [.lst (nD K0), .lst (nD K1), .lst (nD K2)]
theorem okS_mk (slip x y z : Nat) : okS slip (x, y, z) = (decide (1 ≤ x + y + z) && decide (x + y + z ≤ slip)) := rfl
theorem st0 (kd : D) (slip x y : Nat) (F : List Sg) : ∀ (c : Nat) (u : T), x + y + c ≤ 1000 → F.length + c < 100000 →
    ∃ u', loopS (Tg.n 5).put l0_stages_of (nD (uI 0 (c : Int))) [.z kd, .z (.int slip), .l (sgT F), .z (.int x), .z (.int y), u] = .nx [.z kd, .z (.int slip), .l (sgT (F ++ (((List.range c).map fun z => (x, y, z)).filter (okS slip)))), .z (.int x), .z (.int y), u'] := fun c u h hF => by
  obtain ⟨ts', e, u', rfl⟩ := loop_up (put := (Tg.n 5).put) (body := l0_stages_of) (fun k ts => ∃ u : T, ts = [.z kd, .z (.int slip), .l (sgT (F ++ (((List.range k).map fun z => (x, y, z)).filter (okS slip)))), .z (.int x), .z (.int y), u])
    c (fun k ts hk ⟨u, ets⟩ => by
      subst ets
      rw [List.range_succ, List.map_append, List.filter_append, ← List.append_assoc]
      have hl : (F ++ (((List.range k).map fun z => (x, y, z)).filter (okS slip))).length ≤ F.length + k := by
        rw [List.length_append]
        have := List.length_filter_le (okS slip) ((List.range k).map fun z => (x, y, z))
        rw [List.length_map, List.length_range] at this
        omega
      generalize F ++ (((List.range k).map fun z => (x, y, z)).filter (okS slip)) = L at *
      refine ⟨_, ?_, .z (.int k), rfl⟩
      have hL : (sgT L).length < 1000000 := by rw [sgT_len]; omega
      have sn := sgT_snoc L (x, y, k)
      unfold sgD at sn
      simp only at sn
      show _ = RS.nx [_, _, .l (sgT (L ++ [(x, y, k)].filter (okS slip))), _, _, _]
      by_cases c1 : 1 ≤ x + y + k
      · by_cases c2 : x + y + k ≤ slip
        · have ok : okS slip (x, y, k) = true := by rw [okS_mk, Bool.and_eq_true, decide_eq_true_eq, decide_eq_true_eq]; exact ⟨c1, c2⟩
          rw [List.filter_cons_of_pos ok, List.filter_nil, ← sn]
          have d1 : (1 : Int) ≤ (x : Int) + y + k := by omega
          have d2 : (x : Int) + y + k ≤ slip := by omega
          generalize sgT L = Q at *
          simp -implicitDefEqProofs [l0_stages_of, d1, d2, hL]
        · have ok : ¬ okS slip (x, y, k) = true := by rw [okS_mk, Bool.and_eq_true, decide_eq_true_eq, decide_eq_true_eq]; omega
          rw [List.filter_cons_of_neg ok, List.filter_nil, List.append_nil]
          have d1 : (1 : Int) ≤ (x : Int) + y + k := by omega
          have d2 : ¬ (x : Int) + y + k ≤ slip := by omega
          generalize sgT L = Q at *
          simp -implicitDefEqProofs [l0_stages_of, d1, d2]
      · have ok : ¬ okS slip (x, y, k) = true := by rw [okS_mk, Bool.and_eq_true, decide_eq_true_eq, decide_eq_true_eq]; omega
        rw [List.filter_cons_of_neg ok, List.filter_nil, List.append_nil]
        have d1 : ¬ (1 : Int) ≤ (x : Int) + y + k := by omega
        generalize sgT L = Q at *
        simp -implicitDefEqProofs [l0_stages_of, d1])
    c 0 [.z kd, .z (.int slip), .l (sgT F), .z (.int x), .z (.int y), u] (Nat.zero_add _) ⟨u, by simp⟩
  rw [← nD_up] at e
  exact ⟨u', e⟩
theorem st1 (K0 K1 K2 : List Int) (slip x : Nat) (hK2 : K2.length ≤ 12) (F : List Sg) (b : Nat) (u v : T) (h : x + b ≤ 100) (hF : F.length + b * 13 < 10000) :
    ∃ u' v', loopS (Tg.n 4).put l1_stages_of (nD (uI 0 (b : Int))) [.z (kD3 K0 K1 K2), .z (.int slip), .l (sgT F), .z (.int x), u, v] = .nx [.z (kD3 K0 K1 K2), .z (.int slip), .l (sgT (F ++ (plnS K2.length x b).filter (okS slip))), .z (.int x), u', v'] := by
  obtain ⟨ts', e, u', v', rfl⟩ := loop_up (put := (Tg.n 4).put) (body := l1_stages_of) (fun k ts => ∃ u v : T, ts = [.z (kD3 K0 K1 K2), .z (.int slip), .l (sgT (F ++ (plnS K2.length x k).filter (okS slip))), .z (.int x), u, v])
    b (fun k ts hk ⟨u, v, ets⟩ => by
      subst ets
      rw [pln_succ, List.filter_append, ← List.append_assoc]
      have hl : (F ++ (plnS K2.length x k).filter (okS slip)).length ≤ F.length + k * 13 := by
        rw [List.length_append]
        have := List.length_filter_le (okS slip) (plnS K2.length x k)
        rw [pln_len] at this
        have : k * (K2.length + 1) ≤ k * 13 := Nat.mul_le_mul_left _ (by omega)
        omega
      generalize F ++ (plnS K2.length x k).filter (okS slip) = L at *
      obtain ⟨u2, e2⟩ := st0 (kD3 K0 K1 K2) slip x k L (K2.length + 1) v (by omega) (by omega)
      rw [show ((List.range (K2.length + 1)).map fun z => (x, k, z)) = rowS K2.length x k from rfl] at e2
      refine ⟨_, ?_, .z (.int k), u2, rfl⟩
      rw [Int.natCast_add] at e2
      have ec : ((1 : Nat) : Int) = 1 := rfl
      rw [ec] at e2
      have bg : big62 ((K2.length : Int) + 1) := big62_of (by omega) (by omega)
      generalize sgT (L ++ (rowS K2.length x k).filter (okS slip)) = Q2 at *
      generalize sgT L = Q at *
      unfold kD3 at *
      generalize hb : l0_stages_of = body at *
      generalize hm : (K2.length : Int) + 1 = m at *
      simp -implicitDefEqProofs [l1_stages_of, hb, hm, bg, e2])
    b 0 [.z (kD3 K0 K1 K2), .z (.int slip), .l (sgT F), .z (.int x), u, v] (Nat.zero_add _) ⟨u, v, by unfold plnS; simp⟩
  rw [← nD_up] at e
  exact ⟨u', v', e⟩
theorem stages_of_ok (K0 K1 K2 : List Int) (slip : Nat) (h0 : K0.length ≤ 12) (h1 : K1.length ≤ 12) (h2 : K2.length ≤ 12) :
    m_stages_of [.z (kD3 K0 K1 K2), .z (.int slip)] = .ok (.l (sgT (stgS K0.length K1.length K2.length slip))) [.z (kD3 K0 K1 K2), .z (.int slip)] := by
  obtain ⟨ts', e, u', v', w', rfl⟩ := loop_up (put := (Tg.n 3).put) (body := l2_stages_of) (fun k ts => ∃ u v w : T, ts = [.z (kD3 K0 K1 K2), .z (.int slip), .l (sgT ((boxS K1.length K2.length k).filter (okS slip))), u, v, w])
    (K0.length + 1) (fun k ts hk ⟨u, v, w, ets⟩ => by
      subst ets
      rw [box_succ, List.filter_append]
      have hl : ((boxS K1.length K2.length k).filter (okS slip)).length ≤ k * 169 := by
        have := List.length_filter_le (okS slip) (boxS K1.length K2.length k)
        rw [box_len] at this
        have h3 : (K1.length + 1) * (K2.length + 1) ≤ 13 * 13 := Nat.mul_le_mul (by omega) (by omega)
        have : k * ((K1.length + 1) * (K2.length + 1)) ≤ k * (13 * 13) := Nat.mul_le_mul_left _ h3
        omega
      generalize (boxS K1.length K2.length k).filter (okS slip) = L at *
      obtain ⟨u2, v2, e2⟩ := st1 K0 K1 K2 slip k h2 L (K1.length + 1) v w (by omega) (by omega)
      refine ⟨_, ?_, .z (.int k), u2, v2, rfl⟩
      rw [Int.natCast_add] at e2
      have ec : ((1 : Nat) : Int) = 1 := rfl
      rw [ec] at e2
      have bg : big62 ((K1.length : Int) + 1) := big62_of (by omega) (by omega)
      generalize sgT (L ++ (plnS K2.length k (K1.length + 1)).filter (okS slip)) = Q2 at *
      generalize sgT L = Q at *
      unfold kD3 at *
      generalize hb : l1_stages_of = body at *
      generalize hm : (K1.length : Int) + 1 = m at *
      simp -implicitDefEqProofs [l2_stages_of, hb, hm, bg, e2])
    (K0.length + 1) 0 [.z (kD3 K0 K1 K2), .z (.int slip), .l (sgT []), .gone, .gone, .gone] (Nat.zero_add _) ⟨.gone, .gone, .gone, by unfold boxS; simp⟩
  rw [← nD_up, Int.natCast_add] at e
  have ec : ((1 : Nat) : Int) = 1 := rfl
  rw [ec] at e
  have bg : big62 ((K0.length : Int) + 1) := big62_of (by omega) (by omega)
  unfold stgS fullS
  have ez : sgT [] = [] := rfl
  rw [ez] at e
  generalize sgT ((boxS K1.length K2.length (K0.length + 1)).filter (okS slip)) = Q2 at *
  unfold m_stages_of b_stages_of
  unfold kD3 at *
  generalize hb : l2_stages_of = body at *
  generalize hm : (K0.length : Int) + 1 = m at *
  simp -implicitDefEqProofs [hm, bg, e]
theorem ends_of_ok (K0 K1 K2 : List Int) : m_ends_of [.z (kD3 K0 K1 K2)] = .ok (.z (.tup [sgD (K0.length, K1.length, 0), sgD (0, K1.length, K2.length)])) [.z (kD3 K0 K1 K2)] := by
  unfold m_ends_of b_ends_of kD3 sgD
  simp -implicitDefEqProofs
theorem compR_nil' (vs put mc me ts) : compR vs put mc me [] ts = .ok [] (wipeT ts vs) := rfl
theorem near_ok (s t : Sg) : m_near [.z (sgD s), .z (sgD t)] = .ok (.z (.bl (nr s t))) [.z (sgD s), .z (sgD t)] := by
  obtain ⟨a, b, c⟩ := s
  obtain ⟨x, y, z⟩ := t
  have al := alike_ok (a + b + c) (x + y + z) (min a x + min b y + min c z)
  have m1 : mnI (a : Int) x = (min a x : Nat) := by have := mnI_eq (a : Int) x; omega
  have m2 : mnI (b : Int) y = (min b y : Nat) := by have := mnI_eq (b : Int) y; omega
  have m3 : mnI (c : Int) z = (min c z : Nat) := by have := mnI_eq (c : Int) z; omega
  have q1 : (a : Int) + (b + c) = ((a + b + c : Nat) : Int) := by omega
  have q2 : (x : Int) + (y + z) = ((x + y + z : Nat) : Int) := by omega
  have q3 : ((min a x : Nat) : Int) + ((min b y : Nat) + ((min c z : Nat))) = ((min a x + min b y + min c z : Nat) : Int) := by omega
  have b3 : big62 3 := by decide
  have hn : nr (a, b, c) (x, y, z) = alkB (a + b + c) (x + y + z) (min a x + min b y + min c z) := rfl
  rw [hn]
  have cm : ∀ u, compR [3] (Tg.n 3).put (M.ret true) (zT (binZ oMin2 (zT (binA oIx (see (seeN 0)) (seeN 3))) (zT (binA oIx (see (seeN 1)) (seeN 3))))) (nD [0, 1, 2]) [.z (.tup [.int a, .int b, .int c]), .z (.tup [.int x, .int y, .int z]), u, .gone] = .ok (nD [((min a x : Nat) : Int), ((min b y : Nat) : Int), ((min c z : Nat) : Int)]) [.z (.tup [.int a, .int b, .int c]), .z (.tup [.int x, .int y, .int z]), u, .gone] := fun u => by
    rw [← m1, ← m2, ← m3]
    have e3 : nD [0, 1, 2] = [.int 0, .int 1, .int 2] := rfl
    rw [e3]
    simp -implicitDefEqProofs [compR_cons, compR_nil', nD_cons, nD_nil]
  rw [← q1, ← q2, ← q3] at al
  unfold sgD
  unfold m_near b_near
  simp only
  generalize alkB (a + b + c) (x + y + z) (min a x + min b y + min c z) = R at *
  generalize min a x = p1 at *
  generalize min b y = p2 at *
  generalize min c z = p3 at *
  have os : oSum (.lst (nD [(p1 : Int), (p2 : Int), (p3 : Int)])) = some (.z (.int ((p1 : Int) + (p2 + p3)))) := by rw [oSum_nD]; simp
  have l3 : 3 ≤ lim := by decide
  simp -implicitDefEqProofs [cm, b3, os, l3, al]
theorem oAny_bls (l : List Bool) : oAny (.lst (l.map .bl)) = some (.z (.bl (l.any id))) := by
  show (match blsD (l.map .bl) with | some ns => some (T.z (.bl (ns.any id))) | none => none) = _
  rw [blsD_map]
def sgI (s : Sg) : List Int := [(s.1 : Int), (s.2.1 : Int), (s.2.2 : Int)]
theorem sgD_nD (s : Sg) : sgD s = .tup (nD (sgI s)) := rfl
theorem sgI_inj {s t : Sg} : sgI s = sgI t ↔ s = t := by
  obtain ⟨a, b, c⟩ := s
  obtain ⟨x, y, z⟩ := t
  unfold sgI
  simp
  omega
theorem eqd_tup (a b : List Int) : eqd (.tup (nD a)) (.tup (nD b)) = decide (a = b) := by
  have e : ∀ l, pyD (.tup (nD l)) = .tuple (l.map PyData.int) := fun l => by
    unfold pyD
    rw [D.py, pys_nD]
  unfold eqd
  rw [e, e, eqv_ints]
theorem okq_tup (a : List Int) : okq (.tup (nD a)) = true := okq_of (k := 1) (by simp) (by omega)
theorem oEq_sg (s t : Sg) : oEq (sgD s) (sgD t) = some (.z (.bl (decide (s = t)))) := by
  rw [sgD_nD, sgD_nD]
  unfold oEq
  rw [if_pos ⟨okq_tup _, okq_tup _⟩, eqd_tup, decide_eq_decide.mpr sgI_inj]
theorem oNe_sg (s t : Sg) : oNe (sgD s) (sgD t) = some (.z (.bl (!decide (s = t)))) := by
  rw [sgD_nD, sgD_nD]
  unfold oNe
  rw [if_pos ⟨okq_tup _, okq_tup _⟩, eqd_tup, decide_eq_decide.mpr sgI_inj]
/-! the table of the fewest refits, rim by rim -/
def keysS (f : List (Sg × Nat)) : List Sg := f.map (·.1)
def nxtS (rows : List Sg) (f : List (Sg × Nat)) (rim : List Sg) : List Sg := rows.filter fun s => !decide (s ∈ keysS f) && rim.any (nr s)
def addS (f : List (Sg × Nat)) (rim : List Sg) (h : Nat) : List (Sg × Nat) := f ++ rim.map fun s => (s, h)
inductive Bf (rows : List Sg) : List (Sg × Nat) → List Sg → Nat → List (Sg × Nat) → Prop
  | stop {f h} : Bf rows f [] h f
  | go {f rim h out} : rim ≠ [] → Bf rows (addS f (nxtS rows f rim) (h + 1)) (nxtS rows f rim) (h + 1) out → Bf rows f rim h out
theorem keys_add (f : List (Sg × Nat)) (rim : List Sg) (h : Nat) : keysS (addS f rim h) = keysS f ++ rim := by
  unfold keysS addS
  rw [List.map_append, List.map_map]
  congr 1
  have : ((fun x : Sg × Nat => x.1) ∘ fun s => (s, h)) = id := rfl
  rw [this, List.map_id]
theorem nxt_mem {rows : List Sg} {f : List (Sg × Nat)} {rim : List Sg} {s : Sg} : s ∈ nxtS rows f rim ↔ s ∈ rows ∧ s ∉ keysS f ∧ ∃ t ∈ rim, nr s t = true := by
  unfold nxtS
  rw [List.mem_filter, Bool.and_eq_true, List.any_eq_true]
  simp
theorem filt_le {α : Type} {P Q : α → Bool} : ∀ l : List α, (∀ x, P x = true → Q x = true) → (l.filter P).length ≤ (l.filter Q).length
  | [], _ => Nat.le_refl _
  | x :: l, h => by
    have ih := filt_le l h
    by_cases p : P x = true
    · rw [List.filter_cons_of_pos p, List.filter_cons_of_pos (h x p), List.length_cons, List.length_cons]; omega
    · rw [List.filter_cons_of_neg p]
      by_cases q : Q x = true
      · rw [List.filter_cons_of_pos q, List.length_cons]; omega
      · rw [List.filter_cons_of_neg q]; exact ih
theorem filt_lt {α : Type} {P Q : α → Bool} (s : α) : ∀ l : List α, (∀ x, P x = true → Q x = true) → s ∈ l → Q s = true → P s = false → (l.filter P).length < (l.filter Q).length
  | [], _, hs, _, _ => nomatch hs
  | x :: l, h, hs, hq, hp => by
    rcases List.mem_cons.mp hs with e | hs'
    · subst e
      rw [List.filter_cons_of_neg (by rw [hp]; decide), List.filter_cons_of_pos hq, List.length_cons]
      have := filt_le l h
      omega
    · have ih := filt_lt s l h hs' hq hp
      by_cases p : P x = true
      · rw [List.filter_cons_of_pos p, List.filter_cons_of_pos (h x p), List.length_cons, List.length_cons]; omega
      · rw [List.filter_cons_of_neg p]
        by_cases q : Q x = true
        · rw [List.filter_cons_of_pos q, List.length_cons]; omega
        · rw [List.filter_cons_of_neg q]; exact ih
theorem bf_ex (rows : List Sg) (hr : rows.Nodup) : ∀ (n : Nat) (f : List (Sg × Nat)) (rim : List Sg) (h : Nat), (rows.filter fun s => !decide (s ∈ keysS f)).length ≤ n → ∃ out, Bf rows f rim h out := fun n => by
  induction n with
  | zero =>
    intro f rim h hn
    cases rim with
    | nil => exact ⟨f, .stop⟩
    | cons t rim =>
      have e : nxtS rows f (t :: rim) = [] := by
        rw [List.eq_nil_iff_forall_not_mem]
        intro s hs
        rw [nxt_mem] at hs
        have : s ∈ rows.filter fun s => !decide (s ∈ keysS f) := by rw [List.mem_filter]; simp [hs.1, hs.2.1]
        have := List.length_pos_of_mem this
        omega
      refine ⟨addS f [] (h + 1), .go (by simp) ?_⟩
      rw [e]
      exact .stop
  | succ n ih =>
    intro f rim h hn
    cases rim with
    | nil => exact ⟨f, .stop⟩
    | cons t rim =>
      generalize hN : nxtS rows f (t :: rim) = N
      cases N with
      | nil =>
        refine ⟨addS f [] (h + 1), .go (by simp) ?_⟩
        rw [hN]
        exact .stop
      | cons s N =>
        have hs : s ∈ nxtS rows f (t :: rim) := by rw [hN]; exact List.mem_cons_self
        have hs' := nxt_mem.mp hs
        obtain ⟨out, ho⟩ := ih (addS f (nxtS rows f (t :: rim)) (h + 1)) (nxtS rows f (t :: rim)) (h + 1) (by
          rw [keys_add]
          have lt : (rows.filter fun x => !decide (x ∈ keysS f ++ nxtS rows f (t :: rim))).length < (rows.filter fun x => !decide (x ∈ keysS f)).length := by
            refine filt_lt s rows (fun x hx => ?_) hs'.1 (by simp [hs'.2.1]) (by simp [hs])
            simp at hx
            simp [hx.1]
          omega)
        exact ⟨out, .go (by simp) ho⟩
/-- what holds behind each rim -/
structure BI (rows : List Sg) (f : List (Sg × Nat)) (rim : List Sg) (h : Nat) : Prop where
  nd : (keysS f).Nodup
  sub : ∀ s ∈ keysS f, s ∈ rows
  rn : rim.Nodup
  rh : ∀ s, s ∈ rim ↔ (s, h) ∈ f
  le : ∀ p ∈ f, p.2 ≤ h
  cl : ∀ p ∈ f, p.2 < h → ∀ t ∈ rows, nr p.1 t = true → ∃ j, (t, j) ∈ f ∧ j ≤ p.2 + 1
  pa : ∀ p ∈ f, 0 < p.2 → ∃ t, (t, p.2 - 1) ∈ f ∧ nr p.1 t = true
theorem BI.step {rows : List Sg} (hr : rows.Nodup) {f : List (Sg × Nat)} {rim : List Sg} {h : Nat} (I : BI rows f rim h) : BI rows (addS f (nxtS rows f rim) (h + 1)) (nxtS rows f rim) (h + 1) := by
  have mem_add : ∀ p, p ∈ addS f (nxtS rows f rim) (h + 1) ↔ p ∈ f ∨ (p.1 ∈ nxtS rows f rim ∧ p.2 = h + 1) := fun p => by
    unfold addS
    rw [List.mem_append, List.mem_map]
    constructor
    · rintro (q | ⟨s, hs, rfl⟩)
      · exact .inl q
      · exact .inr ⟨hs, rfl⟩
    · rintro (q | ⟨q1, q2⟩)
      · exact .inl q
      · exact .inr ⟨p.1, q1, by rw [← q2]⟩
  have in_keys : ∀ p ∈ f, p.1 ∈ keysS f := fun p hp => List.mem_map_of_mem hp
  refine ⟨?_, ?_, hr.filter _, ?_, ?_, ?_, ?_⟩
  · rw [keys_add, List.nodup_append]
    refine ⟨I.nd, hr.filter _, fun a ha b hb e => ?_⟩
    subst e
    exact (nxt_mem.mp hb).2.1 ha
  · intro s hs
    rw [keys_add, List.mem_append] at hs
    exact hs.elim (I.sub s) fun q => (nxt_mem.mp q).1
  · intro s
    rw [mem_add]
    constructor
    · exact fun q => .inr ⟨q, rfl⟩
    · rintro (q | q)
      · have := I.le _ q; simp only at this; omega
      · exact q.1
  · intro p hp
    rcases (mem_add p).mp hp with q | q
    · have := I.le _ q; omega
    · omega
  · intro p hp hlt t ht hn
    rcases (mem_add p).mp hp with q | q
    · have hle := I.le _ q
      by_cases e : p.2 < h
      · obtain ⟨j, j1, j2⟩ := I.cl p q e t ht hn
        exact ⟨j, (mem_add _).mpr (.inl j1), j2⟩
      · have e2 : p.2 = h := by omega
        by_cases hk : t ∈ keysS f
        · obtain ⟨p', hp', rfl⟩ := List.mem_map.mp hk
          have := I.le _ hp'
          exact ⟨p'.2, (mem_add _).mpr (.inl hp'), by omega⟩
        · have hrim : p.1 ∈ rim := (I.rh p.1).mpr (by rw [← e2]; exact q)
          refine ⟨h + 1, (mem_add _).mpr (.inr ⟨nxt_mem.mpr ⟨ht, hk, p.1, hrim, by rw [nr_comm]; exact hn⟩, rfl⟩), by omega⟩
    · omega
  · intro p hp h0
    rcases (mem_add p).mp hp with q | q
    · obtain ⟨t, t1, t2⟩ := I.pa p q h0
      exact ⟨t, (mem_add _).mpr (.inl t1), t2⟩
    · obtain ⟨_, _, t, ht, hn⟩ := nxt_mem.mp q.1
      refine ⟨t, (mem_add _).mpr (.inl ?_), hn⟩
      rw [show p.2 - 1 = h by omega]
      exact (I.rh t).mp ht
theorem BI.start {rows : List Sg} {goal : Sg} (hg : goal ∈ rows) : BI rows [(goal, 0)] [goal] 0 := by
  refine ⟨by simp [keysS], fun s hs => ?_, by simp, fun s => by simp, fun p hp => ?_, fun p hp h => by omega, fun p hp h => ?_⟩
  · have : s = goal := by simpa [keysS] using hs
    rw [this]; exact hg
  · have : p = (goal, 0) := by simpa using hp
    rw [this]; exact Nat.le_refl _
  · have : p = (goal, 0) := by simpa using hp
    rw [this] at h; simp at h
/-- what the whole table keeps -/
structure BO (rows : List Sg) (goal : Sg) (f : List (Sg × Nat)) : Prop where
  nd : (keysS f).Nodup
  sub : ∀ s ∈ keysS f, s ∈ rows
  cl : ∀ p ∈ f, ∀ t ∈ rows, nr p.1 t = true → ∃ j, (t, j) ∈ f ∧ j ≤ p.2 + 1
  pa : ∀ p ∈ f, 0 < p.2 → ∃ t, (t, p.2 - 1) ∈ f ∧ nr p.1 t = true
  g0 : (goal, 0) ∈ f
theorem bf_out {rows : List Sg} (hr : rows.Nodup) {goal : Sg} {f rim h out} (b : Bf rows f rim h out) : BI rows f rim h → (goal, 0) ∈ f → BO rows goal out := by
  induction b with
  | stop =>
    intro I hg
    refine ⟨I.nd, I.sub, fun p hp t ht hn => ?_, I.pa, hg⟩
    rename_i f h
    have : p.2 ≠ h := fun e => by
      have := (I.rh p.1).mpr (by rw [← e]; exact hp)
      simp at this
    have := I.le p hp
    exact I.cl p hp (by omega) t ht hn
  | go _ _ ih =>
    intro I hg
    exact ih (I.step hr) (List.mem_append_left _ hg)
/-! the dict -/
def hD (f : List (Sg × Nat)) : List (List Key × D) := f.map fun p => (sgK p.1, .int p.2)
theorem hD_len (f) : (hD f).length = f.length := List.length_map _
theorem has_hD (f : List (Sg × Nat)) (s : Sg) : hasK (hD f) (sgK s) = decide (s ∈ keysS f) := by
  unfold hasK hD keysS
  induction f with
  | nil => simp
  | cons p f ih =>
    rw [List.map_cons, List.any_cons, List.map_cons, ih]
    by_cases e : p.1 = s
    · simp [e]
    · have : ¬ sgK p.1 = sgK s := fun q => e (sgK_inj q)
      have e3 : ¬ s = p.1 := fun q => e q.symm
      simp [this, e3]
def lkS (f : List (Sg × Nat)) (s : Sg) : Option Nat := (f.find? fun p => decide (p.1 = s)).map (·.2)
theorem get_hD (f : List (Sg × Nat)) (s : Sg) : getK (hD f) (sgK s) = (lkS f s).map fun n => D.int n := by
  unfold getK hD lkS
  induction f with
  | nil => rfl
  | cons p f ih =>
    rw [List.map_cons, List.find?_cons, List.find?_cons]
    by_cases e : p.1 = s
    · simp [e]
    · have : ¬ sgK p.1 = sgK s := fun q => e (sgK_inj q)
      simp only [this, e, decide_false]
      exact ih
theorem lk_of_mem {f : List (Sg × Nat)} (nd : (keysS f).Nodup) {s : Sg} {n : Nat} (h : (s, n) ∈ f) : lkS f s = some n := by
  unfold lkS
  induction f with
  | nil => cases h
  | cons p f ih =>
    unfold keysS at nd
    rw [List.map_cons, List.nodup_cons] at nd
    rw [List.find?_cons]
    rcases List.mem_cons.mp h with e | h'
    · subst e; simp
    · have : p.1 ≠ s := fun e => nd.1 (by rw [e]; exact List.mem_map_of_mem (f := (·.1)) h')
      simp only [this, decide_false]
      exact ih nd.2 h'
theorem lk_none {f : List (Sg × Nat)} {s : Sg} (h : s ∉ keysS f) : lkS f s = none := by
  unfold lkS
  rw [List.find?_eq_none.mpr]
  · rfl
  · intro p hp q
    have := of_decide_eq_true q
    exact h (by rw [← this]; exact List.mem_map_of_mem (f := (·.1)) hp)
theorem mem_of_lk {f : List (Sg × Nat)} {s : Sg} {n : Nat} (h : lkS f s = some n) : (s, n) ∈ f := by
  unfold lkS at h
  cases q : f.find? fun p => decide (p.1 = s) with
  | none => rw [q] at h; cases h
  | some p =>
    rw [q] at h
    cases h
    have := of_decide_eq_true (List.find?_some (p := fun p : Sg × Nat => decide (p.1 = s)) q)
    rw [← this]
    exact List.mem_of_find?_eq_some q
theorem put_hD (f : List (Sg × Nat)) (s : Sg) (n : Nat) (h : s ∉ keysS f) : putD (sgK s) (.int n) (hD f) = hD (f ++ [(s, n)]) := by
  have e : (hD f).any (fun p => decide (p.1 = sgK s)) = false := by
    have := has_hD f s
    unfold hasK at this
    rw [this, decide_eq_false h]
  unfold putD
  rw [e]
  unfold hD
  rw [List.map_append]; rfl
theorem nodup_le {α : Type} [DecidableEq α] : ∀ {l m : List α}, l.Nodup → (∀ x ∈ l, x ∈ m) → l.length ≤ m.length
  | [], _, _, _ => Nat.zero_le _
  | x :: l, m, h, s => by
    obtain ⟨h1, h2⟩ := List.nodup_cons.mp h
    have hx := s x List.mem_cons_self
    have := nodup_le (l := l) (m := m.erase x) h2 fun y hy => (List.mem_erase_of_ne (fun e => h1 (by rw [← e]; exact hy))).mpr (s y (List.mem_cons_of_mem _ hy))
    rw [List.length_erase_of_mem hx] at this
    have := List.length_pos_of_mem hx
    rw [List.length_cons]
    omega
theorem BI.len {rows f rim h} (I : BI rows f rim h) : f.length ≤ rows.length ∧ rim.length ≤ rows.length := by
  refine ⟨?_, ?_⟩
  · have := nodup_le I.nd I.sub
    unfold keysS at this
    rw [List.length_map] at this
    exact this
  · exact nodup_le I.rn fun s hs => I.sub s (List.mem_map_of_mem (f := (·.1)) ((I.rh s).mp hs))
theorem add_len (f rim h) : (addS f rim h).length = f.length + rim.length := by unfold addS; rw [List.length_append, List.length_map]
theorem fzs_1 (a : List D) : T.fzs (a.map T.z) = some a := fzs_z a
theorem fzs_2 (a b : List D) : T.fzs (a.map T.z ++ b.map T.z) = some (a ++ b) := by rw [← List.map_append]; exact fzs_1 _
/-! lists of tuples of numbers -/
def tupsD (L : List (List Int)) : List D := L.map fun l => .tup (nD l)
def tupP (l : List Int) : PyData := .tuple (l.map .int)
theorem pys_tups (L : List (List Int)) : D.pys (tupsD L) = some (L.map tupP) := by
  induction L with
  | nil => rfl
  | cons l L ih =>
    show D.pys (.tup (nD l) :: tupsD L) = _
    rw [D.pys, D.py, pys_nD, ih]; rfl
theorem eqvAll_tups : ∀ a b : List (List Int), PyData.eqvAll (a.map tupP) (b.map tupP) = decide (a = b)
  | [], [] => by simp [PyData.eqvAll]
  | [], y :: b => by simp [PyData.eqvAll]
  | x :: a, [] => by simp [PyData.eqvAll]
  | x :: a, y :: b => by
    have e : PyData.eqv (tupP x) (tupP y) = decide (x = y) := eqv_ints x y
    rw [List.map_cons, List.map_cons, PyData.eqvAll, e, eqvAll_tups a b]
    by_cases h : x = y <;> by_cases h2 : a = b <;> simp [h, h2]
theorem okq_tups (L : List (List Int)) : okq (.lst (tupsD L)) = true := okq_of (k := 2) (by
  show okds 1 (tupsD L) = true
  rw [okds_iff]
  intro d hd
  obtain ⟨s, _, rfl⟩ := List.mem_map.mp hd
  simp) (by omega)
theorem oNe_tups (a b : List (List Int)) : oNe (.lst (tupsD a)) (.lst (tupsD b)) = some (.z (.bl (!decide (a = b)))) := by
  have e : ∀ L, pyD (.lst (tupsD L)) = .list (L.map tupP) := fun L => by
    unfold pyD
    rw [D.py, pys_tups]
  unfold oNe
  rw [if_pos ⟨okq_tups a, okq_tups b⟩]
  unfold eqd
  rw [e, e, PyData.eqv, eqvAll_tups]
theorem sgs_tups (L : List Sg) : sgsD L = tupsD (L.map sgI) := by
  unfold sgsD tupsD
  rw [List.map_map]; rfl
theorem oNe_sgs_nil (L : List Sg) : oNe (.lst (sgsD L)) (.lst []) = some (.z (.bl (!decide (L = [])))) := by
  rw [sgs_tups]
  have := oNe_tups (L.map sgI) []
  rw [show tupsD [] = [] from rfl] at this
  rw [this]
  have : decide (L.map sgI = []) = decide (L = []) := decide_eq_decide.mpr List.map_eq_nil_iff
  rw [this]
theorem put_loop (kd g r l5 : T) (sl h : D) (n : Nat) (hh : h = .int n) : ∀ (L : List Sg) (f : List (Sg × Nat)) (u : T), L.Nodup → (∀ s ∈ L, s ∉ keysS f) → f.length + L.length < 100000 →
    ∃ u', loopS (Tg.n 7).put l0_heights_of (sgsD L) [kd, .z sl, g, .dt (hD f), r, l5, .z h, u, .gone] = .nx [kd, .z sl, g, .dt (hD (addS f L n)), r, l5, .z h, u', .gone] := fun L => by
  subst hh
  induction L with
  | nil => intro f u _ _ _; exact ⟨u, by unfold addS; rw [List.map_nil, List.append_nil]; rfl⟩
  | cons s L ih =>
    intro f u nd hk hl
    obtain ⟨n1, n2⟩ := List.nodup_cons.mp nd
    rw [List.length_cons] at hl
    have hs := hk s List.mem_cons_self
    obtain ⟨u', e⟩ := ih (f ++ [(s, n)]) (.z (sgD s)) n2 (fun x hx => by
      unfold keysS
      rw [List.map_append, List.mem_append]
      rintro (q | q)
      · exact hk x (List.mem_cons_of_mem _ hx) q
      · have : x = s := by simpa using q
        exact n1 (by rw [← this]; exact hx)) (by rw [List.length_append, List.length_singleton]; omega)
    refine ⟨u', ?_⟩
    have ea : addS f (s :: L) n = addS (f ++ [(s, n)]) L n := by unfold addS; rw [List.map_cons, List.append_assoc]; rfl
    rw [ea, ← e]
    unfold sgsD
    rw [List.map_cons, loopS_cons]
    have hlen : (hD f).length < lim := by rw [hD_len]; unfold lim; omega
    have pt := put_hD f s n hs
    have tk := tkey_sg s
    generalize hL : L.map sgD = LD
    generalize sgD s = sd at *
    generalize hD f = d0 at *
    generalize hD (f ++ [(s, n)]) = d1 at *
    have e1 : lTurn (Tg.n 7).put l0_heights_of sd [kd, .z sl, g, .dt d0, r, l5, .z (.int n), u, .gone] = .nx [kd, .z sl, g, .dt d1, r, l5, .z (.int n), .z sd, .gone] := by
      simp -implicitDefEqProofs [l0_heights_of, tk, hlen, pt]
    rw [e1, lp_nx]
def encP (kd sl g : D) (rows : List Sg) (f : List (Sg × Nat)) (rim : List Sg) (h : Nat) (u : T) : List T := [.z kd, .z sl, .z g, .dt (hD f), .z (.lst (sgsD rim)), .l (sgT (rows.filter fun s => !decide (s ∈ keysS f))), .z (.int h), u, .gone]
theorem near_comp (t0 t1 t2 t3 t4 t5 t6 : T) (s : Sg) (rim : List Sg) : compR [8] (Tg.n 8).put (M.ret true) (zT (callM m_near [none, none] (argEx (rdz 7) (argEx (rdz 8) (M.ret []))))) (sgsD rim) [t0, t1, t2, t3, t4, t5, t6, .z (sgD s), .gone] =
    .ok ((rim.map (nr s)).map D.bl) [t0, t1, t2, t3, t4, t5, t6, .z (sgD s), .gone] := by
  have e : (rim.map (nr s)).map D.bl = rim.map fun t => D.bl (nr s t) := by rw [List.map_map]; rfl
  rw [e]
  unfold sgsD
  refine compR_map _ _ (by rfl) fun t ht => ?_
  have n := near_ok s t
  generalize sgD s = sd at *
  generalize sgD t = td at *
  simp -implicitDefEqProofs [n]
theorem any_map (l : List Sg) (P : Sg → Bool) : (l.map P).any id = l.any P := by rw [List.any_map]; rfl
theorem left_comp (t0 t1 t2 t3 : T) (rim left : List Sg) (hr : rim.length ≤ 10000) (t5 t6 : T) : ∀ u : T, compR [7] (Tg.n 7).put (tsB (un1 oAny (zT (compM (itM itemsOf (zT (rdz 4))) [8] (Tg.n 8).put (M.ret true) (zT (callM m_near [none, none] (argEx (rdz 7) (argEx (rdz 8) (M.ret []))))))))) (zT (rdz 7)) (sgsD left) [t0, t1, t2, t3, .z (.lst (sgsD rim)), t5, t6, u, .gone] =
    .ok (sgsD (left.filter fun s => rim.any (nr s))) [t0, t1, t2, t3, .z (.lst (sgsD rim)), t5, t6, .gone, .gone] := fun u => by
  unfold sgsD
  refine compR_filtM sgD _ (by rfl) fun s hs => ?_
  have nc := near_comp t0 t1 t2 t3 (.z (.lst (rim.map sgD))) t5 t6 s rim
  unfold sgsD at nc
  have oa := oAny_bls (rim.map (nr s))
  rw [any_map] at oa
  have hl : ((rim.map (nr s)).map D.bl).length ≤ lim := by rw [List.length_map, List.length_map]; unfold lim; omega
  generalize (rim.map (nr s)).map D.bl = BL at *
  generalize rim.map sgD = RD at *
  generalize sgD s = sd at *
  cases q : rim.any (nr s) with
  | true =>
    rw [q] at oa
    simp -implicitDefEqProofs [nc, hl, oa]
  | false =>
    rw [q] at oa
    simp -implicitDefEqProofs [nc, hl, oa]
theorem keep_comp (t0 t1 t2 : T) (f : List (Sg × Nat)) (left : List Sg) (t4 t5 t6 : T) : ∀ u : T, compR [7] (Tg.n 7).put (tsB (binA oNotIn (see (seeN 7)) (seeN 3))) (zT (rdz 7)) (sgsD left) [t0, t1, t2, .dt (hD f), t4, t5, t6, u, .gone] =
    .ok (sgsD (left.filter fun s => !decide (s ∈ keysS f))) [t0, t1, t2, .dt (hD f), t4, t5, t6, .gone, .gone] := fun u => by
  unfold sgsD
  refine compR_filtM sgD _ (by rfl) fun s hs => ?_
  have hk := has_hD f s
  have tk := tkey_sg s
  generalize hD f = d0 at *
  generalize sgD s = sd at *
  cases q : decide (s ∈ keysS f) with
  | true =>
    rw [q] at hk
    simp -implicitDefEqProofs [tk, hk]
  | false =>
    rw [q] at hk
    simp -implicitDefEqProofs [tk, hk]
theorem h_turn {rows : List Sg} (hrows : rows.length ≤ 2197) (hr : rows.Nodup) (kd sl g : D) {f : List (Sg × Nat)} {rim : List Sg} {h : Nat} (I : BI rows f rim h) (u : T) :
    ∃ u', l1_heights_of (encP kd sl g rows f rim h u) = .nx (encP kd sl g rows (addS f (nxtS rows f rim) (h + 1)) (nxtS rows f rim) (h + 1) u') := by
  have I2 := I.step hr
  obtain ⟨l1, l2⟩ := I.len
  obtain ⟨l3, l4⟩ := I2.len
  rw [add_len] at l3
  have e1 : (rows.filter fun s => !decide (s ∈ keysS f)).filter (fun s => rim.any (nr s)) = nxtS rows f rim := by
    unfold nxtS
    rw [List.filter_filter]
    refine List.filter_congr fun s _ => Bool.and_comm _ _
  have e2 : (rows.filter fun s => !decide (s ∈ keysS f)).filter (fun s => !decide (s ∈ keysS (addS f (nxtS rows f rim) (h + 1)))) = rows.filter fun s => !decide (s ∈ keysS (addS f (nxtS rows f rim) (h + 1))) := by
    rw [List.filter_filter]
    refine List.filter_congr fun s _ => ?_
    rw [keys_add]
    by_cases q : s ∈ keysS f <;> simp [q]
  have lf := List.length_filter_le (fun s => !decide (s ∈ keysS f)) rows
  have lf2 := List.length_filter_le (fun s => !decide (s ∈ keysS (addS f (nxtS rows f rim) (h + 1)))) rows
  obtain ⟨u', pl⟩ := put_loop (.z kd) (.z g) (.z (.lst (sgsD (nxtS rows f rim)))) (.z (.lst (sgsD (rows.filter fun s => !decide (s ∈ keysS f))))) sl (.int (h + 1 : Nat)) (h + 1) rfl (nxtS rows f rim) f .gone (hr.filter _) (fun s hs => (nxt_mem.mp hs).2.1) (by omega)
  have lc := fun t5 t6 => left_comp (.z kd) (.z sl) (.z g) (.dt (hD f)) rim (rows.filter fun s => !decide (s ∈ keysS f)) (by omega) t5 t6
  rw [e1] at lc
  have kc := fun t4 t5 t6 => keep_comp (.z kd) (.z sl) (.z g) (addS f (nxtS rows f rim) (h + 1)) (rows.filter fun s => !decide (s ∈ keysS f)) t4 t5 t6
  rw [e2] at kc
  refine ⟨.gone, ?_⟩
  unfold encP
  have b1 : (sgsD (nxtS rows f rim)).length ≤ lim := by rw [sgsD_len]; unfold lim; omega
  have b2 : (sgsD (rows.filter fun s => !decide (s ∈ keysS (addS f (nxtS rows f rim) (h + 1))))).length ≤ lim := by rw [sgsD_len]; unfold lim; omega
  rw [sgT_eq, sgT_eq]
  rw [Int.natCast_add] at pl ⊢
  have ec : ((1 : Nat) : Int) = 1 := rfl
  rw [ec] at pl ⊢
  generalize hL1 : sgsD (rows.filter fun s => !decide (s ∈ keysS f)) = L1 at *
  generalize hL2 : sgsD (rows.filter fun s => !decide (s ∈ keysS (addS f (nxtS rows f rim) (h + 1)))) = L2 at *
  generalize hD (addS f (nxtS rows f rim) (h + 1)) = d1 at *
  generalize hD f = d0 at *
  generalize sgsD (nxtS rows f rim) = N at *
  generalize sgsD rim = R at *
  generalize hb : l0_heights_of = body at *
  simp -implicitDefEqProofs [l1_heights_of, hb, lc, b1, pl, kc, b2]
theorem while_bf {c : M Bool} {body : S} (rows : List Sg) (hr : rows.Nodup) (enc : List (Sg × Nat) → List Sg → Nat → T → List T) (hc : ∀ f rim h u, BI rows f rim h → c (enc f rim h u) = .ok (!decide (rim = [])) (enc f rim h u))
    (hb : ∀ f rim h u, BI rows f rim h → ∃ u', body (enc f rim h u) = .nx (enc (addS f (nxtS rows f rim) (h + 1)) (nxtS rows f rim) (h + 1) u')) {f rim h out} (b : Bf rows f rim h out) :
    BI rows f rim h → ∀ u, ∃ n h' u', whileN c body n (enc f rim h u) = .nx (enc out [] h' u') := by
  induction b with
  | @stop f h =>
    intro I u
    refine ⟨1, h, u, ?_⟩
    rw [whileN]
    dsimp only
    rw [hc _ _ _ _ I]
    simp
  | @go f rim h out hne b ih =>
    intro I u
    obtain ⟨u1, e1⟩ := hb f rim h u I
    obtain ⟨n, h', u', e2⟩ := ih (I.step hr) u1
    refine ⟨n + 1, h', u', ?_⟩
    rw [whileN]
    dsimp only
    rw [hc _ _ _ _ I]
    dsimp only
    rw [if_pos (by simp [hne]), e1]
    dsimp only
    exact e2
theorem whileS_bf {c : M Bool} {body : S} (rows : List Sg) (hr : rows.Nodup) (enc : List (Sg × Nat) → List Sg → Nat → T → List T) (hc : ∀ f rim h u, BI rows f rim h → c (enc f rim h u) = .ok (!decide (rim = [])) (enc f rim h u))
    (hb : ∀ f rim h u, BI rows f rim h → ∃ u', body (enc f rim h u) = .nx (enc (addS f (nxtS rows f rim) (h + 1)) (nxtS rows f rim) (h + 1) u')) {f rim h out} (b : Bf rows f rim h out) (I : BI rows f rim h) (u : T) :
    ∃ h' u', whileS c body (enc f rim h u) = .nx (enc out [] h' u') := by
  obtain ⟨n, h', u', e⟩ := while_bf rows hr enc hc hb b I u
  exact ⟨h', u', whileS_eq e fun h => nomatch h⟩
theorem heights_of_ok (K0 K1 K2 : List Int) (slip : Nat) (h0 : K0.length ≤ 12) (h1 : K1.length ≤ 12) (h2 : K2.length ≤ 12) {out : List (Sg × Nat)}
    (hg : ((0, K1.length, K2.length) : Sg) ∈ stgS K0.length K1.length K2.length slip) (b : Bf (stgS K0.length K1.length K2.length slip) [((0, K1.length, K2.length), 0)] [(0, K1.length, K2.length)] 0 out) :
    m_heights_of [.z (kD3 K0 K1 K2), .z (.int slip)] = .ok (.dt (hD out)) [.z (kD3 K0 K1 K2), .z (.int slip)] := by
  have so := stages_of_ok K0 K1 K2 slip h0 h1 h2
  have eo := ends_of_ok K0 K1 K2
  have hl := stg_len (slip := slip) h0 h1 h2
  have nd := stg_nodup K0.length K1.length K2.length slip
  generalize stgS K0.length K1.length K2.length slip = rows at *
  generalize hgo : ((0, K1.length, K2.length) : Sg) = goal at *
  obtain ⟨h', u', e⟩ := whileS_bf (c := (tsB (binA oGt (zT (un1 oLen (see (seeN 4)))) (kA (.int 0))))) (body := l1_heights_of) rows nd (encP (kD3 K0 K1 K2) (.int slip) (sgD goal) rows) (fun f rim h u I => by
      unfold encP
      cases rim with
      | nil => simp [sgsD]
      | cons s rim =>
        have p : (0 : Int) < ((sgsD (s :: rim)).length : Nat) := by rw [sgsD_len, List.length_cons]; omega
        have p' : 0 < (sgsD (s :: rim)).length := by rw [sgsD_len, List.length_cons]; omega
        generalize sgsD (s :: rim) = R at *
        simp -implicitDefEqProofs [p]
        exact p')
    (fun f rim h u I => h_turn hl nd (kD3 K0 K1 K2) (.int slip) (sgD goal) I u) b (BI.start hg) .gone
  have lc : ∀ t3 t4 t6 u, compR [7] (Tg.n 7).put (tsB (binA oNe (see (seeN 7)) (seeN 2))) (zT (rdz 7)) (sgsD rows) [.z (kD3 K0 K1 K2), .z (.int slip), .z (sgD goal), t3, t4, .gone, t6, u, .gone] =
      .ok (sgsD (rows.filter fun s => !decide (s ∈ keysS [(goal, 0)]))) [.z (kD3 K0 K1 K2), .z (.int slip), .z (sgD goal), t3, t4, .gone, t6, .gone, .gone] := fun t3 t4 t6 u => by
    unfold sgsD
    refine compR_filtM sgD _ (by rfl) fun s hs => ?_
    have ne := oNe_sg s goal
    have ek : decide (s ∈ keysS [(goal, 0)]) = decide (s = goal) := by unfold keysS; simp
    rw [ek]
    generalize sgD goal = gd at *
    generalize sgD s = sd at *
    generalize kD3 K0 K1 K2 = kd at *
    cases q : decide (s = goal) with
    | true =>
      rw [q] at ne
      simp -implicitDefEqProofs [ne]
    | false =>
      rw [q] at ne
      simp -implicitDefEqProofs [ne]
  have lf := List.length_filter_le (fun s => !decide (s ∈ keysS [(goal, 0)])) rows
  have b1 : (sgsD (rows.filter fun s => !decide (s ∈ keysS [(goal, 0)]))).length ≤ lim := by rw [sgsD_len]; unfold lim; omega
  have hd1 : hD [(goal, 0)] = [(sgK goal, .int 0)] := rfl
  have tk := tkey_sg goal
  unfold encP at e
  rw [hd1] at e
  have s1 : sgsD [goal] = [sgD goal] := rfl
  rw [s1, sgT_eq, sgT_eq] at e
  rw [sgT_eq] at so
  unfold m_heights_of b_heights_of
  have ec : ((0 : Nat) : Int) = 0 := rfl
  rw [ec] at e
  generalize hL : sgsD (rows.filter fun s => !decide (s ∈ keysS [(goal, 0)])) = L at *
  generalize sgsD rows = R at *
  generalize kD3 K0 K1 K2 = kd at *
  generalize sgD goal = gd at *
  generalize sgK goal = gk at *
  generalize hb : l1_heights_of = body at *
  simp -implicitDefEqProofs [eo, tk, so, lc, b1, e]
/-! what is held -/
def K0L (a b : List Int) : List Int := (rs a).filter fun x => !decide (x ∈ rs b)
def K1L (a b : List Int) : List Int := (rs a).filter fun x => decide (x ∈ rs b)
structure CrOk (a b : List Int) (slip : Nat) : Prop where
  s1 : 1 ≤ slip
  s12 : slip ≤ 12
  la : a.length < 64
  lb : b.length < 64
  a1 : 1 ≤ (rs a).length
  as : (rs a).length ≤ slip
  b1 : 1 ≤ (rs b).length
  bs : (rs b).length ≤ slip
theorem K0_le (a b) : (K0L a b).length ≤ (rs a).length := List.length_filter_le _ _
theorem K1_le (a b) : (K1L a b).length ≤ (rs a).length := List.length_filter_le _ _
theorem held_ok {a b : List Int} {slip : Nat} (H : CrOk a b slip) : m_held [.z (.lst (nD a)), .z (.lst (nD b)), .z (.int slip)] = .ok (.z (kD3 (K0L a b) (K1L a b) (K0L b a))) [.z (.lst (nD a)), .z (.lst (nD b)), .z (.int slip)] := by
  have is := is_slip_ok slip
  have s1 := H.s1
  have s12 := H.s12
  rw [decide_eq_true (by omega), decide_eq_true (by omega)] at is
  have r1 := rising_ok (.z (.lst (nD a))) a rfl H.la
  have r2 := rising_ok (.z (.lst (nD b))) b rfl H.lb
  have la := rs_len a
  have lb := rs_len b
  have ga := H.la
  have gb := H.lb
  have c0 := apart_ok (rs a) (rs b) (by omega)
  have c1 := common_ok (rs a) (rs b) (by omega)
  have c2 := apart_ok (rs b) (rs a) (by omega)
  rw [rs_rs] at c0 c1 c2
  rw [show isort (ddp a) = rs a from rfl] at r1
  rw [show isort (ddp b) = rs b from rfl] at r2
  have d1 : (1 : Int) ≤ (rs a).length := by have := H.a1; omega
  have d2 : ((rs a).length : Int) ≤ slip := by have := H.as; omega
  have d3 : (1 : Int) ≤ (rs b).length := by have := H.b1; omega
  have d4 : ((rs b).length : Int) ≤ slip := by have := H.bs; omega
  unfold kD3 K0L K1L
  generalize (rs a).filter (fun x => !decide (x ∈ rs b)) = k0 at *
  generalize (rs a).filter (fun x => decide (x ∈ rs b)) = k1 at *
  generalize (rs b).filter (fun x => !decide (x ∈ rs a)) = k2 at *
  generalize rs a = ra at *
  generalize rs b = rb at *
  have l3 : 3 ≤ lim := by decide
  generalize hm1 : (ra.length : Int) = m1 at *
  generalize hm2 : (rb.length : Int) = m2 at *
  unfold m_held b_held
  simp -implicitDefEqProofs [is, r1, r2, hm1, hm2, d1, d2, d3, d4, c0, c1, c2, l3]
/-! the table -/
def oD : Option Int → D
  | some i => .int i
  | none => .non
def rwS (r : Sg × Option Int) : D := .tup [.int r.1.1, .int r.1.2.1, .int r.1.2.2, oD r.2]
def lkI (f : List (Sg × Nat)) (s : Sg) : Option Int := (lkS f s).map fun n => (n : Int)
def rowsT (rows : List Sg) (f : List (Sg × Nat)) : List (Sg × Option Int) := rows.map fun s => (s, lkI f s)
theorem get_oD (f : List (Sg × Nat)) (s : Sg) : (getK (hD f) (sgK s)).getD .non = oD (lkI f s) := by
  rw [get_hD]
  unfold lkI
  cases lkS f s <;> rfl
structure Tbl (a b : List Int) (slip : Nat) (rows : List Sg) (out : List (Sg × Nat)) : Prop where
  ok : CrOk a b slip
  hr : rows = stgS (K0L a b).length (K1L a b).length (K0L b a).length slip
  hg : ((0, (K1L a b).length, (K0L b a).length) : Sg) ∈ rows
  bf : Bf rows [((0, (K1L a b).length, (K0L b a).length), 0)] [(0, (K1L a b).length, (K0L b a).length)] 0 out
theorem Tbl.len {a b slip rows out} (H : Tbl a b slip rows out) : (K0L a b).length ≤ 12 ∧ (K1L a b).length ≤ 12 ∧ (K0L b a).length ≤ 12 ∧ rows.length ≤ 2197 ∧ rows.Nodup := by
  have k0 := K0_le a b
  have k1 := K1_le a b
  have k2 := K0_le b a
  have h1 := H.ok.as
  have h2 := H.ok.bs
  have h3 := H.ok.s12
  refine ⟨by omega, by omega, by omega, ?_, ?_⟩
  · rw [H.hr]; exact stg_len (by omega) (by omega) (by omega)
  · rw [H.hr]; exact stg_nodup _ _ _ _
theorem heights_ok {a b : List Int} {slip : Nat} {rows : List Sg} {out : List (Sg × Nat)} (H : Tbl a b slip rows out) :
    m_heights [.z (.lst (nD a)), .z (.lst (nD b)), .z (.int slip)] = .ok (.l ((rowsT rows out).map fun r => T.z (rwS r))) [.z (.lst (nD a)), .z (.lst (nD b)), .z (.int slip)] := by
  have he := held_ok H.ok
  obtain ⟨l0, l1, l2, lr, nd⟩ := H.len
  have so := stages_of_ok (K0L a b) (K1L a b) (K0L b a) slip l0 l1 l2
  have hh := heights_of_ok (K0L a b) (K1L a b) (K0L b a) slip l0 l1 l2 (out := out) (by rw [← H.hr]; exact H.hg) (by rw [← H.hr]; exact H.bf)
  rw [← H.hr, sgT_eq] at so
  have cm : ∀ z0 z1 z2 z3 u, compR [5] (Tg.n 5).put (M.ret true) (zT (binZ oAdd (zT (rdz 5)) (zT (tupM (argEx (get1 (zT (rdz 4)) (see (seeN 5))) (M.ret [])))))) (sgsD rows) [z0, z1, z2, z3, .z (.dt (hD out)), u] =
      .ok ((rowsT rows out).map rwS) [z0, z1, z2, z3, .z (.dt (hD out)), .gone] := fun z0 z1 z2 z3 u => by
    unfold rowsT sgsD
    rw [List.map_map]
    refine compR_map _ _ (by rfl) fun s hs => ?_
    have tk := tkey_sg s
    have gk := get_oD out s
    have ef : (rwS ∘ fun s => (s, lkI out s)) s = .tup [.int s.1, .int s.2.1, .int s.2.2, oD (lkI out s)] := rfl
    rw [ef]
    have l1 : 1 ≤ lim := by decide
    have l4 : 4 ≤ lim := by decide
    have es : sgD s = .tup [.int s.1, .int s.2.1, .int s.2.2] := rfl
    generalize hD out = d0 at *
    generalize oD (lkI out s) = od at *
    generalize sgK s = gk0 at *
    have ad : oAdd (sgD s) (.tup [od]) = some (.z (.tup [.int s.1, .int s.2.1, .int s.2.2, od])) := by
      rw [es]
      unfold oAdd
      simp -implicitDefEqProofs [l4]
    generalize sgD s = sd at *
    simp -implicitDefEqProofs [tk, gk, l1, ad]
  have em : (rowsT rows out).map (fun r => T.z (rwS r)) = ((rowsT rows out).map rwS).map T.z := by rw [List.map_map]; rfl
  have ll : ((rowsT rows out).map rwS).length ≤ lim := by unfold rowsT; rw [List.length_map, List.length_map]; unfold lim; omega
  rw [em]
  generalize (rowsT rows out).map rwS = RR at *
  generalize kD3 (K0L a b) (K1L a b) (K0L b a) = kd at *
  generalize sgsD rows = sd at *
  generalize hD out = d0 at *
  unfold m_heights b_heights
  simp -implicitDefEqProofs [he, hh, so, cm, ll]
theorem fewest_ok {a b : List Int} {slip : Nat} {rows : List Sg} {out : List (Sg × Nat)} (H : Tbl a b slip rows out) :
    m_fewest [.z (.lst (nD a)), .z (.lst (nD b)), .z (.int slip)] = .ok (.z (oD (lkI out ((K0L a b).length, (K1L a b).length, 0)))) [.z (.lst (nD a)), .z (.lst (nD b)), .z (.int slip)] := by
  have he := held_ok H.ok
  obtain ⟨l0, l1, l2, lr, nd⟩ := H.len
  have hh := heights_of_ok (K0L a b) (K1L a b) (K0L b a) slip l0 l1 l2 (out := out) (by rw [← H.hr]; exact H.hg) (by rw [← H.hr]; exact H.bf)
  have eo := ends_of_ok (K0L a b) (K1L a b) (K0L b a)
  have tk := tkey_sg ((K0L a b).length, (K1L a b).length, 0)
  have gk := get_oD out ((K0L a b).length, (K1L a b).length, 0)
  generalize kD3 (K0L a b) (K1L a b) (K0L b a) = kd at *
  generalize ((K0L a b).length, (K1L a b).length, 0) = st at *
  generalize sgD (0, (K1L a b).length, (K0L b a).length) = gd at *
  generalize hD out = d0 at *
  generalize oD (lkI out st) = od at *
  generalize sgK st = kk at *
  generalize sgD st = sd at *
  unfold m_fewest b_fewest
  simp -implicitDefEqProofs [he, hh, eo, tk, gk]
/-! tables judged -/
theorem okq_oD (o) : okq (oD o) = true := by cases o with
  | none => exact okq_of (k := 0) rfl (by omega)
  | some i => exact okq_int i
theorem oNe_oD (o : Option Int) (i : Int) : oNe (oD o) (.int i) = some (.z (.bl (!decide (o = some i)))) := by
  cases o with
  | none =>
    unfold oNe
    rw [if_pos ⟨okq_oD none, okq_int i⟩]
    have : decide ((none : Option Int) = some i) = false := by simp
    rw [this]
    rfl
  | some j =>
    show oNe (.int j) (.int i) = _
    rw [oNe_int]
    simp
theorem sl3 (a b c d : D) : oSl (.tup [a, b, c, d]) none (some 3) = some (.z (.tup [a, b, c])) := rfl
def ghB : Option Int → Bool
  | none => true
  | some i => decide (0 ≤ i)
def lvB : Option Int → Option Int → Bool
  | none, none => true
  | some i, some j => decide (-1 ≤ i - j) && decide (i - j ≤ 1)
  | _, _ => false
def ok1 (goal : Sg) (r : Sg × Option Int) : Bool := ghB r.2 && !(decide (r.1 = goal) && !decide (r.2 = some 0))
def ok2 (r t : Sg × Option Int) : Bool := !(nr r.1 t.1 && !lvB r.2 t.2)
def gtB (goal : Sg) (tb : List (Sg × Option Int)) : Bool := tb.all (ok1 goal) && tb.all fun r => tb.all (ok2 r)
theorem wrow (r : Sg × Option Int) : rwS r = .tup [.int r.1.1, .int r.1.2.1, .int r.1.2.2, oD r.2] := rfl
theorem row3 (r : Sg × Option Int) : oSl (rwS r) none (some 3) = some (.z (sgD r.1)) := rfl
theorem at3r (r : Sg × Option Int) : oIx (rwS r) (.int 3) = some (.z (oD r.2)) := rfl
theorem oNe_sgs_refl (L : List Sg) : oNe (.lst (sgsD L)) (.lst (sgsD L)) = some (.z (.bl false)) := by
  refine oNe_refl (k := 2) ?_ (by omega)
  show okds 1 (sgsD L) = true
  rw [okds_iff]
  intro d hd
  obtain ⟨s, _, rfl⟩ := List.mem_map.mp hd
  unfold sgD
  simp
theorem gt_true {rows : List Sg} {goal : Sg} {out : List (Sg × Nat)} (H : BO rows goal out) : gtB goal (rowsT rows out) = true := by
  unfold gtB
  rw [Bool.and_eq_true, List.all_eq_true, List.all_eq_true]
  have g0 := lk_of_mem H.nd H.g0
  refine ⟨fun r hr => ?_, fun r hr => ?_⟩
  · obtain ⟨s, hs, rfl⟩ := List.mem_map.mp hr
    unfold ok1
    simp only
    rw [Bool.and_eq_true]
    refine ⟨?_, ?_⟩
    · unfold lkI
      cases lkS out s with
      | none => rfl
      | some n => show decide ((0 : Int) ≤ n) = true; rw [decide_eq_true_eq]; omega
    · by_cases e : s = goal
      · subst e
        unfold lkI
        rw [g0]
        simp
      · simp [e]
  · rw [List.all_eq_true]
    intro t ht
    obtain ⟨s, hs, rfl⟩ := List.mem_map.mp hr
    obtain ⟨s', hs', rfl⟩ := List.mem_map.mp ht
    unfold ok2
    simp only
    cases hn : nr s s' with
    | false => rfl
    | true =>
      have hn' : nr s' s = true := by rw [nr_comm]; exact hn
      unfold lkI
      cases q1 : lkS out s with
      | none =>
        cases q2 : lkS out s' with
        | none => rfl
        | some j =>
          obtain ⟨i, hi, _⟩ := H.cl _ (mem_of_lk q2) s hs hn'
          rw [lk_of_mem H.nd hi] at q1
          cases q1
      | some i =>
        obtain ⟨j, hj, hle⟩ := H.cl _ (mem_of_lk q1) s' hs' hn
        have q2 := lk_of_mem H.nd hj
        obtain ⟨i', hi', hle'⟩ := H.cl _ hj s hs hn'
        have q3 := lk_of_mem H.nd hi'
        rw [q1] at q3
        cases q3
        rw [q2]
        simp only at hle hle'
        show (!(true && !(decide (-1 ≤ (i : Int) - j) && decide ((i : Int) - j ≤ 1)))) = true
        rw [decide_eq_true (by omega), decide_eq_true (by omega)]; rfl

/-! the law's own reckoning -/
theorem law_near_ok (s t : Sg) : m_law_near [.z (sgD s), .z (sgD t)] = .ok (.z (.bl (nr s t))) [.z (sgD s), .z (sgD t)] := by
  obtain ⟨a, b, c⟩ := s
  obtain ⟨x, y, z⟩ := t
  have m1 : mnI (a : Int) x = (min a x : Nat) := by have := mnI_eq (a : Int) x; omega
  have m2 : mnI (b : Int) y = (min b y : Nat) := by have := mnI_eq (b : Int) y; omega
  have m3 : mnI (c : Int) z = (min c z : Nat) := by have := mnI_eq (c : Int) z; omega
  have b3 : big62 3 := by decide
  have hn : nr (a, b, c) (x, y, z) = (decide (a + b + c < 2 * (min a x + min b y + min c z)) && decide (x + y + z < 2 * (min a x + min b y + min c z))) := rfl
  rw [hn]
  have cm : ∀ u, compR [3] (Tg.n 3).put (M.ret true) (zT (binZ oMin2 (zT (binA oIx (see (seeN 0)) (seeN 3))) (zT (binA oIx (see (seeN 1)) (seeN 3))))) (nD [0, 1, 2]) [.z (.tup [.int a, .int b, .int c]), .z (.tup [.int x, .int y, .int z]), u, .gone] = .ok (nD [((min a x : Nat) : Int), ((min b y : Nat) : Int), ((min c z : Nat) : Int)]) [.z (.tup [.int a, .int b, .int c]), .z (.tup [.int x, .int y, .int z]), u, .gone] := fun u => by
    rw [← m1, ← m2, ← m3]
    have e3 : nD [0, 1, 2] = [.int 0, .int 1, .int 2] := rfl
    rw [e3]
    simp -implicitDefEqProofs [compR_cons, compR_nil', nD_cons, nD_nil]
  unfold sgD
  unfold m_law_near b_law_near
  simp only
  generalize min a x = p1 at *
  generalize min b y = p2 at *
  generalize min c z = p3 at *
  have os : oSum (.lst (nD [(p1 : Int), (p2 : Int), (p3 : Int)])) = some (.z (.int ((p1 : Int) + (p2 + p3)))) := by rw [oSum_nD]; simp
  have l3 : 3 ≤ lim := by decide
  have s2 : small 2 := by decide
  have c1 : decide (((a : Int) + (b + c)) < 2 * ((p1 : Int) + (p2 + p3))) = decide (a + b + c < 2 * (p1 + p2 + p3)) := decide_eq_decide.mpr (by omega)
  have c2 : decide (((x : Int) + (y + z)) < 2 * ((p1 : Int) + (p2 + p3))) = decide (x + y + z < 2 * (p1 + p2 + p3)) := decide_eq_decide.mpr (by omega)
  rw [← c1, ← c2]
  by_cases q1 : ((a : Int) + (b + c)) < 2 * ((p1 : Int) + (p2 + p3))
  · simp -implicitDefEqProofs [cm, b3, os, l3, s2, q1]
  · simp -implicitDefEqProofs [cm, b3, os, l3, s2, q1]
theorem ls_row (z0 z1 z2 z5 : T) (c x y : Nat) (u : T) : compR [6] (Tg.n 6).put (M.ret true) (zT (tupM (argEx (rdz 3) (argEx (rdz 4) (argEx (rdz 6) (M.ret [])))))) (nD (uI 0 ((c + 1 : Nat) : Int))) [z0, z1, z2, .z (.int x), .z (.int y), z5, u] =
    .ok (sgsD (rowS c x y)) [z0, z1, z2, .z (.int x), .z (.int y), z5, .gone] := by
  rw [nD_up, ← List.range_eq_range']
  unfold sgsD rowS
  rw [List.map_map]
  refine compR_map _ _ (by rfl) fun k hk => ?_
  have l3 : 3 ≤ lim := by decide
  show _ = R.ok (some (D.tup [.int x, .int y, .int k])) _
  simp -implicitDefEqProofs [l3]
theorem ls_in (z1 z5 : T) (a b c x : Nat) (ha : a ≤ 12) (hb : b ≤ 12) (hc : c ≤ 12) (F : List Sg) (hF : F.length ≤ 2197) (u v : T) :
    ∃ u' v', loopS (Tg.n 4).put l0_law_stages (nD (uI 0 ((b + 1 : Nat) : Int))) [.z (sgD (a, b, c)), z1, .z (.lst (sgsD F)), .z (.int x), u, z5, v] = .nx [.z (sgD (a, b, c)), z1, .z (.lst (sgsD (F ++ plnS c x (b + 1)))), .z (.int x), u', z5, v'] := by
  obtain ⟨ts', e, u', v', rfl⟩ := loop_up (put := (Tg.n 4).put) (body := l0_law_stages) (fun k ts => ∃ u v : T, ts = [.z (sgD (a, b, c)), z1, .z (.lst (sgsD (F ++ plnS c x k))), .z (.int x), u, z5, v])
    (b + 1) (fun k ts hk ⟨u, v, ets⟩ => by
      subst ets
      have rw0 := fun z0 z1 z2 z5 u => ls_row z0 z1 z2 z5 c x k u
      rw [pln_succ, ← List.append_assoc]
      have e2 : sgsD ((F ++ plnS c x k) ++ rowS c x k) = sgsD (F ++ plnS c x k) ++ sgsD (rowS c x k) := List.map_append
      rw [e2]
      have l1 : (sgsD (rowS c x k)).length ≤ lim := by rw [sgsD_len, row_len]; unfold lim; omega
      have l2 : (sgsD (F ++ plnS c x k)).length + (sgsD (rowS c x k)).length ≤ lim := by
        rw [sgsD_len, sgsD_len, row_len, List.length_append, pln_len]
        have : k * (c + 1) ≤ 13 * 13 := Nat.mul_le_mul (by omega) (by omega)
        unfold lim; omega
      have bg : big62 ((c : Int) + 1) := big62_of (by omega) (by omega)
      rw [Int.natCast_add] at rw0
      have ec : ((1 : Nat) : Int) = 1 := rfl
      rw [ec] at rw0
      generalize sgsD (rowS c x k) = R1 at *
      generalize sgsD (F ++ plnS c x k) = R2 at *
      refine ⟨_, ?_, .z (.int k), .gone, rfl⟩
      unfold sgD
      simp only
      generalize hm : (c : Int) + 1 = m at *
      simp -implicitDefEqProofs [l0_law_stages, hm, bg, rw0, l1, l2, fzs_2])
    (b + 1) 0 [.z (sgD (a, b, c)), z1, .z (.lst (sgsD F)), .z (.int x), u, z5, v] (Nat.zero_add _) ⟨u, v, by unfold plnS; simp⟩
  rw [← nD_up] at e
  exact ⟨u', v', e⟩
theorem law_stages_ok (a b c slip : Nat) (ha : a ≤ 12) (hb : b ≤ 12) (hc : c ≤ 12) : m_law_stages [.z (sgD (a, b, c)), .z (.int slip)] = .ok (.l (sgT (stgS a b c slip))) [.z (sgD (a, b, c)), .z (.int slip)] := by
  obtain ⟨ts', e, u', v', w', rfl⟩ := loop_up (put := (Tg.n 3).put) (body := l1_law_stages) (fun k ts => ∃ u v w : T, ts = [.z (sgD (a, b, c)), .z (.int slip), .z (.lst (sgsD (boxS b c k))), u, v, .gone, w])
    (a + 1) (fun k ts hk ⟨u, v, w, ets⟩ => by
      subst ets
      have hF : (boxS b c k).length ≤ 2197 := by
        rw [box_len]
        have h3 : (b + 1) * (c + 1) ≤ 13 * 13 := Nat.mul_le_mul (by omega) (by omega)
        have : k * ((b + 1) * (c + 1)) ≤ 13 * (13 * 13) := Nat.mul_le_mul (by omega) h3
        omega
      obtain ⟨u2, v2, e2⟩ := ls_in (.z (.int slip)) .gone a b c k ha hb hc (boxS b c k) hF v w
      rw [box_succ]
      refine ⟨_, ?_, .z (.int k), u2, v2, rfl⟩
      rw [Int.natCast_add] at e2
      have ec : ((1 : Nat) : Int) = 1 := rfl
      rw [ec] at e2
      have bg : big62 ((b : Int) + 1) := big62_of (by omega) (by omega)
      generalize sgsD (boxS b c k ++ plnS c k (b + 1)) = R1 at *
      generalize sgsD (boxS b c k) = R2 at *
      unfold sgD at *
      simp only at *
      generalize hb : l0_law_stages = body at *
      generalize hm : (b : Int) + 1 = m at *
      simp -implicitDefEqProofs [l1_law_stages, hb, hm, bg, e2])
    (a + 1) 0 [.z (sgD (a, b, c)), .z (.int slip), .z (.lst (sgsD [])), .gone, .gone, .gone, .gone] (Nat.zero_add _) ⟨.gone, .gone, .gone, by unfold boxS; rfl⟩
  rw [← nD_up, Int.natCast_add] at e
  have ec : ((1 : Nat) : Int) = 1 := rfl
  rw [ec] at e
  have bg : big62 ((a : Int) + 1) := big62_of (by omega) (by omega)
  have cm : ∀ z2 z3 z4 u z6, compR [5] (Tg.n 5).put (chB oLe oLe (zT (kT (.int 1))) (zT (un1 oSum (see (seeN 5)))) (see (seeN 1))) (zT (rdz 5)) (sgsD (boxS b c (a + 1))) [.z (sgD (a, b, c)), .z (.int slip), z2, z3, z4, u, z6] =
      .ok (sgsD (stgS a b c slip)) [.z (sgD (a, b, c)), .z (.int slip), z2, z3, z4, .gone, z6] := fun z2 z3 z4 u z6 => by
    unfold sgsD stgS fullS
    refine compR_filtM sgD _ (by rfl) fun s hs => ?_
    have os : oSum (sgD s) = some (.z (.int ((s.1 : Int) + (s.2.1 + s.2.2)))) := by
      show oSum (.tup [.int s.1, .int s.2.1, .int s.2.2]) = _
      rw [oSum_t3, Int.add_zero]
    have ok : okS slip s = (decide ((1 : Int) ≤ (s.1 : Int) + (s.2.1 + s.2.2)) && decide ((s.1 : Int) + (s.2.1 + s.2.2) ≤ slip)) := by
      unfold okS smS
      rw [decide_eq_decide.mpr (show 1 ≤ s.1 + s.2.1 + s.2.2 ↔ (1 : Int) ≤ (s.1 : Int) + (s.2.1 + s.2.2) by omega), decide_eq_decide.mpr (show s.1 + s.2.1 + s.2.2 ≤ slip ↔ (s.1 : Int) + (s.2.1 + s.2.2) ≤ slip by omega)]
    rw [ok]
    generalize (s.1 : Int) + (s.2.1 + s.2.2) = su at *
    generalize sgD s = sd at *
    generalize T.z (sgD (a, b, c)) = z0
    by_cases c1 : 1 ≤ su
    · by_cases c2 : su ≤ slip
      · simp -implicitDefEqProofs [os, c1, c2]
      · simp -implicitDefEqProofs [os, c1, c2]
    · simp -implicitDefEqProofs [os, c1]
  have ll : (sgsD (stgS a b c slip)).length ≤ lim := by rw [sgsD_len]; have := stg_len (slip := slip) ha hb hc; unfold lim; omega
  rw [sgT_eq]
  have ez : sgsD [] = [] := rfl
  rw [ez] at e
  generalize sgsD (boxS b c (a + 1)) = R1 at *
  generalize sgsD (stgS a b c slip) = R2 at *
  unfold m_law_stages b_law_stages
  unfold sgD at *
  simp only at *
  generalize hb : l1_law_stages = body at *
  generalize hm : (a : Int) + 1 = m at *
  simp -implicitDefEqProofs [hm, bg, e, cm, ll]
/-! its table -/
theorem K1_b (a b : List Int) : ((rs a).filter fun x => decide (x ∈ b)) = K1L a b := by
  unfold K1L
  refine List.filter_congr fun x _ => ?_
  rw [decide_eq_decide.mpr (mem_rs (x := x) (a := b)).symm]
theorem K_split (a b : List Int) : (K1L a b).length + (K0L a b).length = (rs a).length := filter_len (fun x => decide (x ∈ rs b)) (rs a)
theorem K1_comm (a b : List Int) : (K1L a b).length = (K1L b a).length := by
  rw [← K1_b, ← K1_b]
  exact mcI_comm a b
theorem crok_of {a b : List Int} {slip : Nat} (s1 : 1 ≤ slip) (s12 : slip ≤ 12) (la : a.length < 64) (lb : b.length < 64) (a1 : a ≠ []) (b1 : b ≠ []) (as : (rs a).length ≤ slip) (bs : (rs b).length ≤ slip) : CrOk a b slip := by
  have pos : ∀ l : List Int, l ≠ [] → 1 ≤ (rs l).length := fun l h => by
    obtain ⟨x, hx⟩ := List.exists_mem_of_ne_nil l h
    exact List.length_pos_of_mem (mem_rs.mpr hx)
  exact ⟨s1, s12, la, lb, pos a a1, as, pos b b1, bs⟩
theorem goal_in {a b : List Int} {slip : Nat} (H : CrOk a b slip) : ((0, (K1L a b).length, (K0L b a).length) : Sg) ∈ stgS (K0L a b).length (K1L a b).length (K0L b a).length slip := by
  have s2 := K_split b a
  have s3 := K1_comm a b
  have b1 := H.b1
  have bs := H.bs
  unfold stgS
  rw [List.mem_filter, full_mem]
  refine ⟨⟨Nat.zero_le _, Nat.le_refl _, Nat.le_refl _⟩, ?_⟩
  unfold okS smS
  rw [Bool.and_eq_true, decide_eq_true_eq, decide_eq_true_eq]
  simp only
  omega
theorem tbl_ex {a b : List Int} {slip : Nat} (H : CrOk a b slip) : ∃ rows out, Tbl a b slip rows out ∧ BO rows (0, (K1L a b).length, (K0L b a).length) out := by
  have nd := stg_nodup (K0L a b).length (K1L a b).length (K0L b a).length slip
  have hg := goal_in H
  obtain ⟨out, bf⟩ := bf_ex _ nd _ [((0, (K1L a b).length, (K0L b a).length), 0)] [(0, (K1L a b).length, (K0L b a).length)] 0 (Nat.le_refl _)
  exact ⟨_, out, ⟨H, rfl, hg, bf⟩, bf_out nd bf (BI.start hg) (by simp)⟩
theorem Tbl.move {a b a' b' : List Int} {slip : Nat} {rows out} (H : Tbl a b slip rows out) (ha : rs a' = rs a) (hb : rs b' = rs b) (H' : CrOk a' b' slip) : Tbl a' b' slip rows out := by
  have k0 : K0L a' b' = K0L a b := by unfold K0L; rw [ha, hb]
  have k1 : K1L a' b' = K1L a b := by unfold K1L; rw [ha, hb]
  have k2 : K0L b' a' = K0L b a := by unfold K0L; rw [ha, hb]
  obtain ⟨_, h2, h3, h4⟩ := H
  exact ⟨H', by rw [k0, k1, k2]; exact h2, by rw [k1, k2]; exact h3, by rw [k1, k2]; exact h4⟩
theorem law_kinds_ok (a b : List Int) (ha : a.length < 64) (hb : b.length < 64) : m_law_kinds [.z (.lst (nD a)), .z (.lst (nD b))] = .ok (.z (sgD ((K0L a b).length, (K1L a b).length, (K0L b a).length))) [.z (.lst (nD a)), .z (.lst (nD b))] := by
  have st := set_ok (.z (.lst (nD a))) a rfl ha
  rw [show isort (ddp a) = rs a from rfl] at st
  have s1 := K_split a b
  have s2 := K_split b a
  have s3 := K1_comm a b
  have e1 : ((ddp a).length : Int) - (K1L a b).length = (K0L a b).length := by
    have : (ddp a).length = (rs a).length := (rise_length a).symm
    omega
  have e2 : ((ddp b).length : Int) - (K1L a b).length = (K0L b a).length := by
    have : (ddp b).length = (rs b).length := (rise_length b).symm
    omega
  have la := rs_len a
  have cm : ∀ u, compR [3] (Tg.n 3).put (tsB (binA oIn (see (seeN 3)) (seeN 1))) (zT (rdz 3)) (nD (rs a)) [.z (.lst (nD a)), .z (.lst (nD b)), u, .gone] = .ok (nD (K1L a b)) [.z (.lst (nD a)), .z (.lst (nD b)), u, .gone] := fun u => by
    rw [← K1_b]
    refine compR_filt _ (by rfl) fun x hx => ?_
    by_cases q : x ∈ b <;> simp -implicitDefEqProofs [q]
  have ll : (K1L a b).length ≤ lim := by have := K1_le a b; unfold lim; omega
  have da := ddp_length a
  have db := ddp_length b
  have g1 : a.length < 4000 := by omega
  have g2 : b.length < 4000 := by omega
  have g3 : (ddp a).length < 4000 := by omega
  have g4 : (ddp b).length < 4000 := by omega
  have l3 : 3 ≤ lim := by decide
  unfold m_law_kinds b_law_kinds sgD
  simp only
  generalize K1L a b = k1 at *
  generalize (K0L a b).length = k0 at *
  generalize (K0L b a).length = k2 at *
  generalize rs a = ra at *
  simp -implicitDefEqProofs [st, cm, ll, g1, g2, g3, g4, e1, e2, l3]
theorem ends_ok (d : Dr) (s : Int) (s1 : 1 ≤ s) (s2 : s ≤ 12) : ∃ (a b : List Int) (d' : Dr), m_law_ends [.l (drL d), .z (.int s)] = .ok (.z (.tup [.lst (nD a), .lst (nD b)])) [.l (drL d'), .z (.int s)] ∧ 1 ≤ a.length ∧ (a.length : Int) ≤ s ∧ 1 ≤ b.length ∧ (b.length : Int) ≤ s := by
  have t1 := take_ok d s (by omega) (by omega)
  have l1 := take_lo d (m := s) (by omega)
  have g1 := take_hi d (m := s) (by omega)
  generalize hr1 : (d.take s).1 = r1 at *
  generalize hd1 : (d.take s).2 = d1 at *
  have rg : RgOk 1 61 := rgOk_of (by omega) (by omega) (by omega) (by omega)
  have hg1 : big62 1 := by decide
  have hg2 : big62 61 := by decide
  have ul : (uI 1 61).length = 60 := by decide
  obtain ⟨a, d2, e1, f1, _⟩ := some_ok d1 (uI 1 61) (1 + r1) (by rw [ul]; omega) (by omega)
  rw [ul] at f1
  generalize hm : (a.length : Int) + 1 = m at *
  have t2 := take_ok d2 m (by omega) (by omega)
  have l2 := take_lo d2 (m := m) (by omega)
  have g2 := take_hi d2 (m := m) (by omega)
  generalize hr2 : (d2.take m).1 = r2 at *
  generalize hd2 : (d2.take m).2 = d3 at *
  have t3 := take_ok d3 3 (by omega) (by omega)
  have l3 := take_lo d3 (m := 3) (by omega)
  have g3 := take_hi d3 (m := 3) (by omega)
  generalize hr3 : (d3.take 3).1 = r3 at *
  generalize hd3 : (d3.take 3).2 = d4 at *
  obtain ⟨q, hq, q0, q1⟩ : ∃ q : Int, r2 * (if 0 < r3 then 1 else 0) = q ∧ 0 ≤ q ∧ q ≤ r2 := by
    by_cases h : 0 < r3
    · rw [if_pos h]; exact ⟨r2, by omega, by omega, by omega⟩
    · rw [if_neg h]; exact ⟨0, by omega, by omega, by omega⟩
  have sq1 : small r2 := small_of (by omega) (by omega)
  obtain ⟨b0, d5, e2, f2, _⟩ := some_ok d4 a q (by omega) (by omega)
  obtain ⟨fr, hfr, frl⟩ : ∃ fr : List Int, (uI 1 61).filter (fun x => !decide (x ∈ a)) = fr ∧ fr.length ≤ 60 := ⟨_, rfl, by rw [← ul]; exact List.length_filter_le _ _⟩
  generalize hm3 : s - b0.length + 1 = m3 at *
  have t4 := take_ok d5 m3 (by omega) (by omega)
  have l4 := take_lo d5 (m := m3) (by omega)
  have g4 := take_hi d5 (m := m3) (by omega)
  generalize hr4 : (d5.take m3).1 = r4 at *
  generalize hd4 : (d5.take m3).2 = d6 at *
  obtain ⟨nw, d7, e3, f3, _⟩ := some_ok d6 fr r4 (by omega) (by omega)
  have nc : ∀ t0 t1 t3 t4 t5 u, compR [6] (Tg.n 6).put (tsB (binA oNotIn (see (seeN 6)) (seeN 2))) (zT (rdz 6)) (nD (uI 1 61)) [t0, t1, .z (.lst (nD a)), t3, t4, t5, u] = .ok (nD fr) [t0, t1, .z (.lst (nD a)), t3, t4, t5, .gone] := fun t0 t1 t3 t4 t5 u => by
    rw [← hfr]
    refine compR_filt _ (by rfl) fun x hx => ?_
    by_cases h : x ∈ a <;> simp -implicitDefEqProofs [h]
  have frlim : fr.length ≤ lim := by unfold lim; omega
  have bl : b0.length + nw.length ≤ lim := by unfold lim; omega
  obtain ⟨a0, ar, ea⟩ : ∃ a0 ar, a = a0 :: ar := by
    cases a with
    | nil => simp at f1; omega
    | cons x y => exact ⟨x, y, rfl⟩
  have at0 : atI (nD a) 0 = some (.int a0) := by rw [ea, show (0 : Int) = ((0 : Nat) : Int) from rfl, atI_nat]; rfl
  have l2' : 2 ≤ lim := by decide
  have l1' : 1 ≤ lim := by decide
  by_cases hb : b0 ++ nw = []
  · refine ⟨a, [a0], d7, ?_, by omega, by omega, by simp, by simp; omega⟩
    have hb0 : b0 = [] := (List.append_eq_nil_iff.mp hb).1
    have hn0 : nw = [] := (List.append_eq_nil_iff.mp hb).2
    unfold m_law_ends b_law_ends
    subst hb0 hn0
    clear ea hfr
    have hm3' : s + 1 = m3 := by rw [← hm3]; simp
    have bl0 : (0 : Nat) ≤ lim := Nat.zero_le _
    simp -implicitDefEqProofs [t1, rg, hg1, hg2, e1, hm, t2, t3, hq, sq1, e2, nc, frlim, hm3', t4, e3, bl0, at0, l1', l2']
    rfl
  · refine ⟨a, b0 ++ nw, d7, ?_, by omega, by omega, ?_, ?_⟩
    · unfold m_law_ends b_law_ends
      clear ea hfr
      simp -implicitDefEqProofs [t1, rg, hg1, hg2, e1, hm, t2, t3, hq, sq1, e2, nc, frlim, hm3, t4, e3, bl, hb, l2']
    · rw [List.length_append]
      have : b0.length + nw.length ≠ 0 := fun h => hb (List.append_eq_nil_iff.mpr ⟨List.length_eq_zero_iff.mp (by omega), List.length_eq_zero_iff.mp (by omega)⟩)
      omega
    · rw [List.length_append]; omega
/-! a boat refitted -/
def herS (boat K : List Int) : List Int := (isort (ddp boat)).filter fun x => decide (x ∈ K)
def pieS (boat K : List Int) (n : Nat) : List Int := (herS boat K ++ (isort (ddp K)).filter fun x => !decide (x ∈ herS boat K)).take n
theorem srt_len (l : List Int) : (isort (ddp l)).length ≤ l.length := by
  rw [(isort_perm _).length_eq]; exact ddp_length l
theorem her_len (boat K : List Int) : (herS boat K).length ≤ boat.length := Nat.le_trans (List.length_filter_le _ _) (srt_len boat)
theorem re_turn (boat K found : List Int) (n : Nat) (k : Int) (kd sd : D) (t5 : T) (hb : boat.length < 64) (hK : K.length < 64) (hf : found.length ≤ 100) (hn : n ≤ 100)
    (h1 : oIx kd (.int k) = some (.z (.lst (nD K)))) (h2 : oIx sd (.int k) = some (.z (.int n))) :
    l0_refitted [.z (.lst (nD boat)), .z kd, .z sd, .z (.lst (nD found)), .z (.int k), t5] = .nx [.z (.lst (nD boat)), .z kd, .z sd, .z (.lst (nD (found ++ pieS boat K n))), .z (.int k), .z (.lst (nD (herS boat K)))] := by
  have e1 := common_ok boat K hb
  have e2 := apart_ok K (herS boat K) hK
  have l1 := her_len boat K
  have l2 : ((isort (ddp K)).filter fun x => !decide (x ∈ herS boat K)).length ≤ K.length := Nat.le_trans (List.length_filter_le _ _) (srt_len K)
  have l3 : (herS boat K).length + ((isort (ddp K)).filter fun x => !decide (x ∈ herS boat K)).length ≤ lim := by unfold lim; omega
  have hc : cutD (herS boat K ++ (isort (ddp K)).filter fun x => !decide (x ∈ herS boat K)) none (some (n : Int)) = pieS boat K n := by rw [cut_to _ (by omega)]; rfl
  have l4 : found.length + (pieS boat K n).length ≤ lim := by
    unfold pieS lim
    rw [List.length_take]; omega
  change m_common _ = .ok (.l (nT (herS boat K))) _ at e1
  generalize herS boat K = hr at *
  generalize (isort (ddp K)).filter (fun x => !decide (x ∈ hr)) = ap at *
  generalize pieS boat K n = pi at *
  unfold l0_refitted
  simp -implicitDefEqProofs [h1, h2, e1, e2, l3, l4, hc]
def refB (boat K0 K1 K2 : List Int) (s : Sg) : List Int := rs (pieS boat K0 s.1 ++ (pieS boat K1 s.2.1 ++ pieS boat K2 s.2.2))
theorem pie_len (boat K : List Int) (n : Nat) : (pieS boat K n).length ≤ n := by unfold pieS; rw [List.length_take]; omega
theorem refitted_ok (boat K0 K1 K2 : List Int) (s : Sg) (hb : boat.length < 64) (h0 : K0.length ≤ 12) (h1 : K1.length ≤ 12) (h2 : K2.length ≤ 12) (s0 : s.1 ≤ 12) (s1 : s.2.1 ≤ 12) (s2 : s.2.2 ≤ 12) :
    m_refitted [.z (.lst (nD boat)), .z (kD3 K0 K1 K2), .z (sgD s)] = .ok (.l (nT (refB boat K0 K1 K2 s))) [.z (.lst (nD boat)), .z (kD3 K0 K1 K2), .z (sgD s)] := by
  have p0 := pie_len boat K0 s.1
  have p1 := pie_len boat K1 s.2.1
  have p2 := pie_len boat K2 s.2.2
  have e0 := re_turn boat K0 [] s.1 0 (kD3 K0 K1 K2) (sgD s) .gone hb (by omega) (by simp) (by omega) rfl rfl
  have e1 := re_turn boat K1 (pieS boat K0 s.1) s.2.1 1 (kD3 K0 K1 K2) (sgD s) (.z (.lst (nD (herS boat K0)))) hb (by omega) (by omega) (by omega) rfl rfl
  have e2 := re_turn boat K2 (pieS boat K0 s.1 ++ pieS boat K1 s.2.1) s.2.2 2 (kD3 K0 K1 K2) (sgD s) (.z (.lst (nD (herS boat K1)))) hb (by omega) (by rw [List.length_append]; omega) (by omega) rfl rfl
  have er := rising_ok (.z (.lst (nD (pieS boat K0 s.1 ++ pieS boat K1 s.2.1 ++ pieS boat K2 s.2.2)))) (pieS boat K0 s.1 ++ pieS boat K1 s.2.1 ++ pieS boat K2 s.2.2) rfl (by rw [List.length_append, List.length_append]; omega)
  rw [List.append_assoc] at er
  have u3 : nD [0, 1, 2] = [.int 0, .int 1, .int 2] := rfl
  have bg : big62 3 := by unfold big62; omega
  rw [List.nil_append, show nD [] = [] from rfl] at e0
  change m_rising _ = .ok (.l (nT (refB boat K0 K1 K2 s))) _ at er
  generalize refB boat K0 K1 K2 s = rb at *
  generalize pieS boat K2 s.2.2 = q2 at *
  generalize pieS boat K1 s.2.1 = q1 at *
  generalize pieS boat K0 s.1 = q0 at *
  generalize kD3 K0 K1 K2 = kd at *
  generalize sgD s = sd at *
  unfold m_refitted b_refitted
  simp -implicitDefEqProofs [bg, u3, e0, e1, e2, er, loopS_cons]
/-! the ways down -/
theorem kys_hD (f : List (Sg × Nat)) : kysT (hD f) = (keysS f).map sgD := by
  unfold kysT hD keysS
  rw [List.map_map, List.map_map]; rfl
theorem lk_key {f : List (Sg × Nat)} (nd : (keysS f).Nodup) {t : Sg} (h : t ∈ keysS f) : ∃ m, lkS f t = some m ∧ (t, m) ∈ f := by
  obtain ⟨p, hp, e⟩ := List.mem_map.mp h
  obtain ⟨a, m⟩ := p
  dsimp only at e
  subst e
  exact ⟨m, lk_of_mem nd hp, hp⟩
theorem oIx_hD {f : List (Sg × Nat)} {t : Sg} {m : Nat} (h : lkS f t = some m) : oIx (.dt (hD f)) (sgD t) = some (.z (.int m)) := by
  have g := get_hD f t
  rw [h] at g
  show (match D.tkey (sgD t) with | some k => (getK (hD f) k).map T.z | none => none) = _
  rw [tkey_sg]
  show (getK (hD f) (sgK t)).map T.z = _
  rw [g]; rfl
def wayS (f : List (Sg × Nat)) (s : Sg) (n : Nat) : List Sg := (keysS f).filter fun t => decide (lkS f t = some n) && nr s t
theorem ways_comp (z0 z1 z2 z3 z6 z7 z8 z9 u : T) {f : List (Sg × Nat)} (nd : (keysS f).Nodup) {s : Sg} {n : Nat} (hs : lkS f s = some (n + 1)) (hf : f.length ≤ 10000) :
    compKT 4 [] [10] (Tg.n 10).put (andB (tsB (binZ oEq (zT (binA oIx (see (seeN 4)) (seeN 10))) (zT (binA oSub (zT (binA oIx (see (seeN 4)) (seeN 5))) (kA (.int 1)))))) (tsB (callM m_near [none, none] (argEx (rdz 5) (argEx (rdz 10) (M.ret [])))))) (zT (rdz 10)) [z0, z1, z2, z3, .z (.dt (hD f)), .z (sgD s), z6, z7, z8, z9, u] =
      .ok (.l ((sgsD (wayS f s n)).map .z)) [z0, z1, z2, z3, .z (.dt (hD f)), .z (sgD s), z6, z7, z8, z9, .gone] := by
  have o0 := oIx_hD hs
  refine compKT_run rfl ?_ ?_
  · rw [kys_hD]
    refine compR_filtM sgD (fun t => decide (lkS f t = some n) && nr s t) rfl fun t ht => ?_
    obtain ⟨m, hm, _⟩ := lk_key nd ht
    have o1 := oIx_hD hm
    have en := near_ok s t
    rw [hm]
    have c1 : ((n + 1 : Nat) : Int) - 1 = n := by omega
    generalize hD f = hd at *
    generalize sgD s = sd at *
    generalize sgD t = td at *
    generalize nr s t = b at *
    have hmn : (((m : Nat) : Int) = n) ↔ m = n := by omega
    by_cases c : m = n
    · subst c
      cases b <;> simp -implicitDefEqProofs [-oIx_dt, o0, o1, en, c1]
    · have c' : ¬ ((m : Int) = n) := by omega
      simp -implicitDefEqProofs [-oIx_dt, o0, o1, en, c1, c, c']
  · unfold sgsD wayS
    have l1 := List.length_filter_le (fun t => decide (lkS f t = some n) && nr s t) (keysS f)
    have l2 : (keysS f).length = f.length := List.length_map _
    rw [List.length_map]; unfold lim; omega
theorem bf_zero {rows : List Sg} {goal : Sg} {f rim h out} (b : Bf rows f rim h out) : (∀ p ∈ f, p.2 = 0 → p.1 = goal) → ∀ p ∈ out, p.2 = 0 → p.1 = goal := by
  induction b with
  | stop => exact id
  | go _ _ ih =>
    intro hz
    refine ih fun p hp h0 => ?_
    rcases List.mem_append.mp hp with q | q
    · exact hz p q h0
    · obtain ⟨s, _, rfl⟩ := List.mem_map.mp q
      cases h0
theorem minOf_mem : ∀ (xs : List Tp) (x : Tp), PySem.W.minOf x xs ∈ x :: xs
  | [], x => List.mem_cons_self
  | y :: xs, x => by
    have e : PySem.W.minOf x (y :: xs) = PySem.W.minOf (if PySem.W.DatumOrd.lt y x = true then y else x) xs := rfl
    rw [e]
    have h := minOf_mem xs (if PySem.W.DatumOrd.lt y x = true then y else x)
    rcases List.mem_cons.mp h with h | h
    · rw [h]
      split
      · exact .tail _ List.mem_cons_self
      · exact List.mem_cons_self
    · exact .tail _ (.tail _ h)
def tpS (s : Sg) : Tp := ⟨sgI s⟩
theorem min_sgs {W : List Sg} (h : W ≠ []) : ∃ t ∈ W, oMinT (.lst (sgsD W)) = some (.z (sgD t)) := by
  have e : sgsD W = (W.map tpS).map tpD := by unfold sgsD; rw [List.map_map]; rfl
  cases W with
  | nil => exact absurd rfl h
  | cons w W =>
    have e2 : ((w :: W).map tpS) = tpS w :: W.map tpS := rfl
    have hm := minOf_mem (W.map tpS) (tpS w)
    rw [← e2] at hm
    obtain ⟨t, ht, et⟩ := List.mem_map.mp hm
    refine ⟨t, ht, ?_⟩
    unfold oMinT
    rw [e]
    dsimp only
    rw [tpsD_map, e2]
    dsimp only
    rw [← et]; rfl
/-- where the boat is: at first a frozen list, then the plan's last -/
def BtS (x : T) (pl : List T) (boat : List Int) : Prop := (x = .z (.lst (nD boat)) ∧ pl = []) ∨ (x = .gone ∧ ∃ pre, pl = pre ++ [.l (nT boat)])
theorem fz_nT (l : List Int) : T.fz (.l (nT l)) = some (.lst (nD l)) := fz_l (nD l) |> fun h => by
  have e : nT l = (nD l).map T.z := by unfold nT nD; rw [List.map_map]; rfl
  rw [e]; exact h
theorem fresh_nT (l : List Int) : T.fresh (.l (nT l)) = true := by
  have h : ∀ l : List Int, T.freshs (l.map fun i => T.z (.int i)) = true := fun l => by
    induction l with
    | nil => rfl
    | cons x l ih => rw [List.map_cons, T.freshs, ih]; rfl
  exact h l
theorem bts_vis {x : T} {pl : List T} {boat : List Int} (h : BtS x pl boat) (y0 y1 y2 y3 y4 y5 y6 y9 yu : T) :
    zg (some x) = true ∧ visT 8 7 [y0, y1, y2, y3, y4, y5, y6, x, .l pl, y9, yu] = some [frzT y0, frzT y1, frzT y2, frzT y3, frzT y4, frzT y5, frzT y6, .z (.lst (nD boat)), frzT (.l pl), frzT y9, frzT yu] := by
  rcases h with ⟨rfl, rfl⟩ | ⟨rfl, pre, rfl⟩
  · exact ⟨rfl, rfl⟩
  · refine ⟨rfl, ?_⟩
    have e : lastD 8 [y0, y1, y2, y3, y4, y5, y6, .gone, .l (pre ++ [.l (nT boat)]), y9, yu] = some (.lst (nD boat)) := by
      show (match (pre ++ [T.l (nT boat)]).getLast? with | some t => t.fz | none => none) = _
      rw [List.getLast?_concat]
      exact fz_nT boat
    unfold visT
    rw [e]
    rfl
theorem ca_turn (z0 z1 z2 z6 z9 u x : T) (K0 K1 K2 : List Int) {f : List (Sg × Nat)} (nd : (keysS f).Nodup) {s : Sg} {n : Nat} (hs : lkS f s = some (n + 1)) (hf : f.length ≤ 10000) (hw : wayS f s n ≠ []) (boat : List Int) (plan : List T) (bt : BtS x plan boat)
    (hb : boat.length < 64) (h0 : K0.length ≤ 12) (h1 : K1.length ≤ 12) (h2 : K2.length ≤ 12) (hk : ∀ t ∈ keysS f, t.1 ≤ 12 ∧ t.2.1 ≤ 12 ∧ t.2.2 ≤ 12) (hp : plan.length < 10000) :
    ∃ t ∈ wayS f s n, l0_carried [z0, z1, z2, .z (kD3 K0 K1 K2), .z (.dt (hD f)), .z (sgD s), z6, x, .l plan, z9, u] =
      .nx [z0, z1, z2, .z (kD3 K0 K1 K2), .z (.dt (hD f)), .z (sgD t), z6, .gone, .l (plan ++ [.l (nT (refB boat K0 K1 K2 t))]), .l ((sgsD (wayS f s n)).map .z), .gone] := by
  obtain ⟨t, ht, em⟩ := min_sgs hw
  have hk' := hk t (List.mem_filter.mp ht).1
  have ew := ways_comp z0 z1 z2 (.z (kD3 K0 K1 K2)) z6 .gone .gone z9 u nd hs hf
  have er := refitted_ok boat K0 K1 K2 t hb h0 h1 h2 hk'.1 hk'.2.1 hk'.2.2
  have lp : plan.length < lim := by unfold lim; omega
  have ef := fresh_nT (refB boat K0 K1 K2 t)
  have fzz : ∀ d, frzT (.z d) = .z d := fun d => rfl
  refine ⟨t, ht, ?_⟩
  have hv : ∀ w, _ := fun w => bts_vis bt z0 z1 z2 (.z (kD3 K0 K1 K2)) (.z (.dt (hD f))) (.z (sgD t)) z6 (.l ((sgsD (wayS f s n)).map .z)) w
  have hz := (hv .gone).1
  have hv := (hv .gone).2
  rw [fzz, fzz, fzz] at hv
  generalize refB boat K0 K1 K2 t = b' at *
  generalize kD3 K0 K1 K2 = kd at *
  generalize hD f = hd at *
  generalize sgD s = sd at *
  generalize sgD t = td at *
  generalize sgsD (wayS f s n) = wd at *
  have hi : isL 8 [z0, z1, z2, .z kd, .z (.dt hd), .z sd, z6, x, .l plan, z9, u] = true := rfl
  have hi2 : isL 8 [z0, z1, z2, .z kd, .z (.dt hd), .z sd, z6, x, .l plan, .l (wd.map .z), .gone] = true := rfl
  unfold l0_carried
  simp -implicitDefEqProofs [ew, em, er, lp, ef, hz, hv, hi, hi2, -zg]
theorem rfl_len (boat K0 K1 K2 : List Int) (s : Sg) (s0 : s.1 ≤ 12) (s1 : s.2.1 ≤ 12) (s2 : s.2.2 ≤ 12) : (refB boat K0 K1 K2 s).length < 64 := by
  have a := pie_len boat K0 s.1
  have b := pie_len boat K1 s.2.1
  have c := pie_len boat K2 s.2.2
  have d := rs_len (pieS boat K0 s.1 ++ (pieS boat K1 s.2.1 ++ pieS boat K2 s.2.2))
  unfold refB
  rw [List.length_append, List.length_append] at d
  omega
theorem ht_lt {rows : List Sg} {goal : Sg} {f : List (Sg × Nat)} (B : BO rows goal f) {n : Nat} {s : Sg} (h : (s, n) ∈ f) : n < f.length := by
  have all : ∀ n s, (s, n) ∈ f → ∀ m ≤ n, m ∈ f.map (·.2) := fun n => by
    induction n with
    | zero => intro s h m hm; exact List.mem_map.mpr ⟨_, h, by dsimp only; omega⟩
    | succ n ih =>
      intro s h m hm
      by_cases c : m = n + 1
      · subst c; exact List.mem_map.mpr ⟨_, h, rfl⟩
      · obtain ⟨t, ht, _⟩ := B.pa _ h (Nat.succ_pos n)
        exact ih t ht m (by omega)
  have := nodup_le (l := List.range (n + 1)) (m := f.map (·.2)) List.nodup_range fun x hx => all n s h x (by rw [List.mem_range] at hx; omega)
  rw [List.length_range, List.length_map] at this
  omega
/-- a plan: each boat is the one ahead, refitted to a near stage of the table; it ends at the goal's -/
inductive Pln (f : List (Sg × Nat)) (K0 K1 K2 : List Int) (goal : Sg) : Nat → List Int → Sg → List (List Int) → Prop
  | stop {boat} : Pln f K0 K1 K2 goal 0 boat goal []
  | go {n boat s t P} : t ∈ keysS f → nr s t = true → Pln f K0 K1 K2 goal n (refB boat K0 K1 K2 t) t P → Pln f K0 K1 K2 goal (n + 1) boat s (refB boat K0 K1 K2 t :: P)
def plT (P : List (List Int)) : List T := P.map fun b => .l (nT b)
theorem ca_loopP {rows : List Sg} {goal : Sg} {f : List (Sg × Nat)} (B : BO rows goal f) (Z : ∀ p ∈ f, p.2 = 0 → p.1 = goal) (z0 z1 z2 : T) (K0 K1 K2 : List Int) (hf : f.length ≤ 2500)
    (h0 : K0.length ≤ 12) (h1 : K1.length ≤ 12) (h2 : K2.length ≤ 12) (hk : ∀ t ∈ keysS f, t.1 ≤ 12 ∧ t.2.1 ≤ 12 ∧ t.2.2 ≤ 12) : ∀ (n : Nat) (s : Sg) (boat : List Int) (x : T) (plan : List T) (z9 u : T), BtS x plan boat → (s, n) ∈ f → boat.length < 64 → plan.length + n < 9000 →
      ∃ (k : Nat) (x' : T) (P : List (List Int)) (z9' u' : T), whileN (frmB 8 7 (tsB (binA oNe (see (seeN 5)) (seeN 6)))) l0_carried k [z0, z1, z2, .z (kD3 K0 K1 K2), .z (.dt (hD f)), .z (sgD s), .z (sgD goal), x, .l plan, z9, u] =
        .nx [z0, z1, z2, .z (kD3 K0 K1 K2), .z (.dt (hD f)), .z (sgD goal), .z (sgD goal), x', .l (plan ++ plT P), z9', u'] ∧ Pln f K0 K1 K2 goal n boat s P := fun n => by
  induction n with
  | zero =>
    intro s boat x plan z9 u bt hs hb hp
    have es : s = goal := Z _ hs rfl
    subst es
    refine ⟨1, x, [], z9, u, ?_, .stop⟩
    have o := oNe_sg s s
    rw [decide_eq_true rfl] at o
    rw [show plan ++ plT [] = plan from List.append_nil _]
    have hz := (bts_vis bt .gone .gone .gone .gone .gone .gone .gone .gone .gone).1
    generalize hD f = hd at *
    generalize kD3 K0 K1 K2 = kd at *
    generalize sgD s = sd at *
    have hi : isL 8 [z0, z1, z2, .z kd, .z (.dt hd), .z sd, .z sd, x, .l plan, z9, u] = true := rfl
    rw [whileN]
    simp -implicitDefEqProofs [o, hz, hi, -zg]
  | succ n ih =>
    intro s boat x plan z9 u bt hs hb hp
    have hl := lk_of_mem B.nd hs
    obtain ⟨q, hq, hn0⟩ := B.pa _ hs (Nat.succ_pos n)
    have hw : wayS f s n ≠ [] := List.ne_nil_of_mem (List.mem_filter.mpr ⟨List.mem_map.mpr ⟨_, hq, rfl⟩, by
      rw [lk_of_mem B.nd hq, hn0]; simp⟩ : q ∈ wayS f s n)
    obtain ⟨t, ht, e⟩ := ca_turn z0 z1 z2 (.z (sgD goal)) z9 u x K0 K1 K2 B.nd hl (by omega) hw boat plan bt hb h0 h1 h2 hk (by omega)
    have hm := List.mem_filter.mp ht
    have hk' := hk t hm.1
    have hb2 := hm.2
    rw [Bool.and_eq_true, decide_eq_true_eq] at hb2
    have htn : (t, n) ∈ f := mem_of_lk hb2.1
    obtain ⟨k, x', P, z9', u', e2, hP⟩ := ih t (refB boat K0 K1 K2 t) .gone (plan ++ [.l (nT (refB boat K0 K1 K2 t))]) (.l ((sgsD (wayS f s n)).map .z)) .gone (.inr ⟨rfl, _, rfl⟩) htn (rfl_len _ _ _ _ _ hk'.1 hk'.2.1 hk'.2.2) (by rw [List.length_append]; simp; omega)
    have hne : s ≠ goal := fun z => by
      subst z
      have g0 := lk_of_mem B.nd B.g0
      rw [hl] at g0; cases g0
    refine ⟨k + 1, x', refB boat K0 K1 K2 t :: P, z9', u', ?_, .go hm.1 hb2.2 hP⟩
    have o := oNe_sg s goal
    rw [decide_eq_false hne] at o
    rw [show plan ++ plT (refB boat K0 K1 K2 t :: P) = (plan ++ [.l (nT (refB boat K0 K1 K2 t))]) ++ plT P by unfold plT; simp]
    have hz := (bts_vis bt .gone .gone .gone .gone .gone .gone .gone .gone .gone).1
    generalize refB boat K0 K1 K2 t = b' at *
    generalize (plan ++ [.l (nT b')]) ++ plT P = fin at *
    generalize hD f = hd at *
    generalize kD3 K0 K1 K2 = kd at *
    generalize sgD s = sd at *
    generalize sgD goal = gd at *
    have hi : isL 8 [z0, z1, z2, .z kd, .z (.dt hd), .z sd, .z gd, x, .l plan, z9, u] = true := rfl
    rw [whileN]
    simp -implicitDefEqProofs [o, e, e2, hz, hi, -zg]
theorem carried_okP {a b : List Int} {slip : Nat} {rows : List Sg} {out : List (Sg × Nat)} (H : Tbl a b slip rows out) (B : BO rows (0, (K1L a b).length, (K0L b a).length) out) :
    ∃ R, m_carried [.z (.lst (nD a)), .z (.lst (nD b)), .z (.int slip)] = .ok R [.z (.lst (nD a)), .z (.lst (nD b)), .z (.int slip)] ∧
      (lkS out ((K0L a b).length, (K1L a b).length, 0) = none → R = .z .non) ∧ ∀ n, lkS out ((K0L a b).length, (K1L a b).length, 0) = some n →
        ∃ P, R = .l (plT P) ∧ Pln out (K0L a b) (K1L a b) (K0L b a) (0, (K1L a b).length, (K0L b a).length) n (rs a) ((K0L a b).length, (K1L a b).length, 0) P := by
  cases q : lkS out ((K0L a b).length, (K1L a b).length, 0) with
  | none =>
    have he := held_ok H.ok
    obtain ⟨l0, l1, l2, lr, nd⟩ := H.len
    have hh := heights_of_ok (K0L a b) (K1L a b) (K0L b a) slip l0 l1 l2 (out := out) (by rw [← H.hr]; exact H.hg) (by rw [← H.hr]; exact H.bf)
    have eo := ends_of_ok (K0L a b) (K1L a b) (K0L b a)
    have hhas := has_hD out ((K0L a b).length, (K1L a b).length, 0)
    have ni : oNotIn (sgD ((K0L a b).length, (K1L a b).length, 0)) (.dt (hD out)) = some (.z (.bl (!decide (((K0L a b).length, (K1L a b).length, 0) ∈ keysS out)))) := by
      unfold oNotIn inD
      rw [tkey_sg]
      dsimp only
      rw [hhas]
    refine ⟨.z .non, ?_, fun _ => rfl, fun n hn => nomatch hn⟩
    have nk : ((K0L a b).length, (K1L a b).length, 0) ∉ keysS out := fun h => by
      obtain ⟨m, hm, _⟩ := lk_key B.nd h
      rw [q] at hm; cases hm
    rw [decide_eq_false nk] at ni
    generalize kD3 (K0L a b) (K1L a b) (K0L b a) = kd at *
    generalize sgD ((K0L a b).length, (K1L a b).length, 0) = sd at *
    generalize sgD (0, (K1L a b).length, (K0L b a).length) = gd at *
    generalize hD out = hd at *
    unfold m_carried b_carried
    simp -implicitDefEqProofs [asgS, he, hh, eo, ni]
  | some n =>
    have he := held_ok H.ok
    obtain ⟨l0, l1, l2, lr, nd⟩ := H.len
    have hh := heights_of_ok (K0L a b) (K1L a b) (K0L b a) slip l0 l1 l2 (out := out) (by rw [← H.hr]; exact H.hg) (by rw [← H.hr]; exact H.bf)
    have eo := ends_of_ok (K0L a b) (K1L a b) (K0L b a)
    have Z := bf_zero H.bf (goal := (0, (K1L a b).length, (K0L b a).length)) fun p hp _ => by rw [List.mem_singleton.mp hp]
    have hk : ∀ t ∈ keysS out, t.1 ≤ 12 ∧ t.2.1 ≤ 12 ∧ t.2.2 ≤ 12 := fun t ht => by
      have h := B.sub t ht
      rw [H.hr] at h
      have := full_mem.mp (List.mem_filter.mp h).1
      omega
    have hlen : out.length ≤ 2500 := by
      have := nodup_le B.nd B.sub
      rw [show (keysS out).length = out.length from List.length_map _] at this
      omega
    have er := rising_ok (.z (.lst (nD a))) a rfl H.ok.la
    have hra := rs_len a
    have hb : (rs a).length < 64 := by have := H.ok.la; omega
    change m_rising _ = .ok (.l (nT (rs a))) _ at er
    have hhas := has_hD out ((K0L a b).length, (K1L a b).length, 0)
    have hs := mem_of_lk q
    have hn := ht_lt B hs
    have ik : ((K0L a b).length, (K1L a b).length, 0) ∈ keysS out := List.mem_map.mpr ⟨_, hs, rfl⟩
    have ni : oNotIn (sgD ((K0L a b).length, (K1L a b).length, 0)) (.dt (hD out)) = some (.z (.bl false)) := by
      unfold oNotIn inD
      rw [tkey_sg]
      dsimp only
      rw [hhas, decide_eq_true ik]; rfl
    obtain ⟨k, x', P, z9, u', ew, hP⟩ := ca_loopP B Z (.z (.lst (nD a))) (.z (.lst (nD b))) (.z (.int slip)) (K0L a b) (K1L a b) (K0L b a) hlen l0 l1 l2 hk n _ (rs a) (.z (.lst (nD (rs a)))) [] .gone .gone (.inl ⟨rfl, rfl⟩) hs hb (by simp; omega)
    rw [List.nil_append] at ew
    have ew2 := whileS_eq ew (by intro z; cases z)
    refine ⟨.l (plT P), ?_, fun h => (nomatch h), fun m hm => ⟨P, rfl, by cases hm; exact hP⟩⟩
    clear hP hhas ik hs
    generalize kD3 (K0L a b) (K1L a b) (K0L b a) = kd at *
    generalize sgD ((K0L a b).length, (K1L a b).length, 0) = sd at *
    generalize sgD (0, (K1L a b).length, (K0L b a).length) = gd at *
    generalize hD out = hd at *
    generalize rs a = ra at *
    generalize plT P = pl at *
    unfold m_carried b_carried
    simp -implicitDefEqProofs [asgS, he, hh, eo, ni, er, ew2]
end Ar
namespace Ar
open PySem PySem.Spec PyProof.Rows L2
/-! the law's own look at a good table -/
theorem law_level_ok (o p : Option Int) : m_law_level [.z (oD o), .z (oD p)] = .ok (.z (.bl (lvB o p))) [.z (oD o), .z (oD p)] := by
  unfold m_law_level b_law_level
  cases o with
  | none => cases p <;> simp -implicitDefEqProofs [oD, lvB]
  | some i => cases p with
    | none => simp -implicitDefEqProofs [oD, lvB]
    | some j =>
      by_cases h1 : -1 ≤ i - j
      · by_cases h2 : i - j ≤ 1
        · simp -implicitDefEqProofs [oD, lvB, h1, h2]
        · simp -implicitDefEqProofs [oD, lvB, h1, h2]
      · simp -implicitDefEqProofs [oD, lvB, h1]
theorem lgt_turn (z0 z1 z2 : T) (r t : Sg × Option Int) : l0_law_good_table [z0, z1, z2, .z (rwS r), .z (rwS t)] =
    if ok2 r t = true then .nx [z0, z1, z2, .z (rwS r), .z (rwS t)] else .rt (.z (.bl false)) [z0, z1, z2, .z (rwS r), .z (rwS t)] := by
  have a3 := at3r r
  have r3 := row3 r
  have a4 := at3r t
  have r4 := row3 t
  have n := law_near_ok r.1 t.1
  have l := law_level_ok r.2 t.2
  unfold ok2
  generalize sgD r.1 = rd at *
  generalize sgD t.1 = td at *
  generalize rwS r = rw0 at *
  generalize rwS t = rw1 at *
  generalize oD r.2 = od at *
  generalize oD t.2 = od1 at *
  generalize lvB r.2 t.2 = lb at *
  cases hn : nr r.1 t.1 with
  | false =>
    rw [hn] at n
    simp -implicitDefEqProofs [l0_law_good_table, r3, r4, n]
  | true =>
    rw [hn] at n
    cases lb <;> simp -implicitDefEqProofs [l0_law_good_table, r3, r4, n, a3, a4, l]
theorem lgt_in (z0 z1 z2 : T) (r : Sg × Option Int) : ∀ (L : List (Sg × Option Int)) (v : T), L.all (ok2 r) = true → ∃ v', loopS (Tg.n 4).put l0_law_good_table (L.map rwS) [z0, z1, z2, .z (rwS r), v] = .nx [z0, z1, z2, .z (rwS r), v']
  | [], v, _ => ⟨v, rfl⟩
  | t :: L, v, h => by
    rw [List.all_cons, Bool.and_eq_true] at h
    have e := lgt_turn z0 z1 z2 r t
    rw [if_pos h.1] at e
    obtain ⟨v', ih⟩ := lgt_in z0 z1 z2 r L (.z (rwS t)) h.2
    refine ⟨v', ?_⟩
    rw [List.map_cons, loopS_cons, ← ih]
    generalize l0_law_good_table = B at *
    simp -implicitDefEqProofs [e]
theorem lgt1_turn (a b c : Nat) (z1 : T) (tb : List (Sg × Option Int)) (r : Sg × Option Int) (v : T) (h1 : ok1 (0, b, c) r = true) (h2 : tb.all (ok2 r) = true) :
    ∃ v', l1_law_good_table [.z (sgD (a, b, c)), z1, .z (.lst (tb.map rwS)), .z (rwS r), v] = .nx [.z (sgD (a, b, c)), z1, .z (.lst (tb.map rwS)), .z (rwS r), v'] := by
  obtain ⟨v', e⟩ := lgt_in (.z (sgD (a, b, c))) z1 (.z (.lst (tb.map rwS))) r tb v h2
  have a3 := at3r r
  have r3 := row3 r
  have q := oEq_sg r.1 (0, b, c)
  have o := oNe_oD r.2 0
  have s1 : oIx (sgD (a, b, c)) (.int 1) = some (.z (.int b)) := rfl
  have s2 : oIx (sgD (a, b, c)) (.int 2) = some (.z (.int c)) := rfl
  have gd : D.tup [.int 0, .int (b : Int), .int (c : Int)] = sgD (0, b, c) := rfl
  refine ⟨v', ?_⟩
  unfold ok1 at h1
  obtain ⟨s, x⟩ := r
  dsimp only at *
  generalize sgD (a, b, c) = sd at *
  generalize sgD (0, b, c) = gD at *
  generalize sgD s = td at *
  generalize rwS (s, x) = rw0 at *
  generalize tb.map rwS = tbd at *
  by_cases c1 : s = (0, b, c)
  · rw [decide_eq_true c1] at h1 q
    cases x with
    | none => simp [ghB] at h1
    | some i =>
      by_cases c2 : i = 0
      · subst c2
        simp -implicitDefEqProofs [l1_law_good_table, a3, oD, r3, q, s1, s2, gd, e]
      · exfalso
        simp [c2] at h1
  · rw [decide_eq_false c1] at h1 q
    cases x with
    | none => 
      simp -implicitDefEqProofs [l1_law_good_table, a3, oD, r3, q, s1, s2, gd, e]
    | some i =>
      have hi : ¬ i < 0 := by simp [ghB] at h1; omega
      simp -implicitDefEqProofs [l1_law_good_table, a3, oD, r3, q, s1, s2, gd, e, hi]
theorem lgt_loop (a b c : Nat) (z1 : T) (tb : List (Sg × Option Int)) : ∀ (L : List (Sg × Option Int)) (u v : T), L.all (ok1 (0, b, c)) = true → (L.all fun r => tb.all (ok2 r)) = true →
    ∃ u' v', loopS (Tg.n 3).put l1_law_good_table (L.map rwS) [.z (sgD (a, b, c)), z1, .z (.lst (tb.map rwS)), u, v] = .nx [.z (sgD (a, b, c)), z1, .z (.lst (tb.map rwS)), u', v']
  | [], u, v, _, _ => ⟨u, v, rfl⟩
  | r :: L, u, v, h1, h2 => by
    rw [List.all_cons, Bool.and_eq_true] at h1 h2
    obtain ⟨w, e⟩ := lgt1_turn a b c z1 tb r v h1.1 h2.1
    obtain ⟨u', v', ih⟩ := lgt_loop a b c z1 tb L (.z (rwS r)) w h1.2 h2.2
    refine ⟨u', v', ?_⟩
    rw [List.map_cons, loopS_cons, ← ih]
    generalize l1_law_good_table = B at *
    simp -implicitDefEqProofs [e]
theorem law_good_table_ok {a b : List Int} {slip : Nat} {rows : List Sg} {out : List (Sg × Nat)} (H : Tbl a b slip rows out) (B : BO rows (0, (K1L a b).length, (K0L b a).length) out) :
    m_law_good_table [.z (sgD ((K0L a b).length, (K1L a b).length, (K0L b a).length)), .z (.int slip), .z (.lst ((rowsT rows out).map rwS))] = .ok (.z (.bl true)) [.z (sgD ((K0L a b).length, (K1L a b).length, (K0L b a).length)), .z (.int slip), .z (.lst ((rowsT rows out).map rwS))] := by
  have gt := gt_true B
  unfold gtB at gt
  rw [Bool.and_eq_true] at gt
  obtain ⟨l0, l1, l2, lr, nd⟩ := H.len
  have ls := law_stages_ok (K0L a b).length (K1L a b).length (K0L b a).length slip l0 l1 l2
  rw [← H.hr] at ls
  have ec : ∀ z0 z1 z2 : T, compR [3] (Tg.n 3).put (M.ret true) (zT (slM (zT (rdz 3)) none (some (zT (kT (.int 3)))))) ((rowsT rows out).map rwS) [z0, z1, z2, .gone, .gone] = .ok (sgsD rows) [z0, z1, z2, .gone, .gone] := fun z0 z1 z2 => by
    have : sgsD rows = (rowsT rows out).map fun r => sgD r.1 := by unfold sgsD rowsT; rw [List.map_map]; rfl
    rw [this]
    refine compR_map rwS (fun r => sgD r.1) rfl fun r _ => ?_
    have := row3 r
    generalize sgD r.1 = d at *
    generalize rwS r = rw0 at *
    simp -implicitDefEqProofs [this]
  obtain ⟨u', v', el⟩ := lgt_loop (K0L a b).length (K1L a b).length (K0L b a).length (.z (.int slip)) (rowsT rows out) (rowsT rows out) .gone .gone gt.1 gt.2
  have on := oNe_sgs_refl rows
  have fz : T.fzs (sgT rows) = some (sgsD rows) := by rw [sgT_eq]; exact fzs_z _
  have ll : rows.length ≤ lim := by unfold lim; omega
  have ll2 : (sgsD rows).length ≤ lim := by rw [sgsD_len]; exact ll
  generalize (rowsT rows out).map rwS = tb at *
  generalize sgD ((K0L a b).length, (K1L a b).length, (K0L b a).length) = so at *
  generalize sgT rows = rt at *
  generalize sgsD rows = rd at *
  unfold m_law_good_table b_law_good_table
  generalize l1_law_good_table = BB at *
  simp -implicitDefEqProofs [ec, ll2, ls, fz, on, el]
/-! heights are a distance, and it is the same from both ends -/
inductive Pth (rows : List Sg) : Nat → Sg → Sg → Prop
  | nil {s} : Pth rows 0 s s
  | cons {n s t g} : nr s t = true → t ∈ rows → Pth rows n t g → Pth rows (n + 1) s g
theorem bo_path {rows : List Sg} {goal : Sg} {f : List (Sg × Nat)} (B : BO rows goal f) (Z : ∀ p ∈ f, p.2 = 0 → p.1 = goal) : ∀ (n : Nat) (s : Sg), (s, n) ∈ f → Pth rows n s goal := fun n => by
  induction n with
  | zero => intro s h; have := Z _ h rfl; subst this; exact .nil
  | succ n ih =>
    intro s h
    obtain ⟨t, ht, hn⟩ := B.pa _ h (Nat.succ_pos n)
    exact .cons hn (B.sub t (List.mem_map.mpr ⟨_, ht, rfl⟩)) (ih t ht)
theorem path_bo {rows : List Sg} {goal : Sg} {f : List (Sg × Nat)} (B : BO rows goal f) {m : Nat} {s : Sg} (p : Pth rows m s goal) : s ∈ rows → ∃ j, j ≤ m ∧ (s, j) ∈ f := by
  generalize hg : goal = g at p
  induction p with
  | nil => intro _; subst hg; exact ⟨0, Nat.le_refl _, B.g0⟩
  | cons hn ht _ ih =>
    intro hs
    obtain ⟨j, hj, hf⟩ := ih hg ht
    obtain ⟨k, hk, hk2⟩ := B.cl _ hf _ hs (by rw [nr_comm]; exact hn)
    exact ⟨k, by dsimp only at hk2; omega, hk⟩
theorem Pth.snoc {rows : List Sg} {n : Nat} {s t g : Sg} (p : Pth rows n s t) (h : nr t g = true) (hg : g ∈ rows) : Pth rows (n + 1) s g := by
  induction p with
  | nil => exact .cons h hg .nil
  | cons h1 h2 _ ih => exact .cons h1 h2 (ih h)
theorem Pth.rev {rows : List Sg} {n : Nat} {s g : Sg} (p : Pth rows n s g) : s ∈ rows → Pth rows n g s := by
  induction p with
  | nil => intro _; exact .nil
  | cons h1 h2 _ ih => intro hs; exact (ih h2).snoc (by rw [nr_comm]; exact h1) hs
def flS (s : Sg) : Sg := (s.2.2, s.2.1, s.1)
theorem nr_flip (s t : Sg) : nr (flS s) (flS t) = nr s t := by
  unfold nr miS smS flS
  dsimp only
  rw [show s.2.2 + s.2.1 + s.1 = s.1 + s.2.1 + s.2.2 by omega, show t.2.2 + t.2.1 + t.1 = t.1 + t.2.1 + t.2.2 by omega, show min s.2.2 t.2.2 + min s.2.1 t.2.1 + min s.1 t.1 = min s.1 t.1 + min s.2.1 t.2.1 + min s.2.2 t.2.2 by omega]
theorem Pth.flip {rows rows' : List Sg} (h : ∀ t ∈ rows, flS t ∈ rows') {n : Nat} {s g : Sg} (p : Pth rows n s g) : Pth rows' n (flS s) (flS g) := by
  induction p with
  | nil => exact .nil
  | cons h1 h2 _ ih => exact .cons (by rw [nr_flip]; exact h1) (h _ h2) ih
theorem stg_flip {a b c slip : Nat} : ∀ t ∈ stgS a b c slip, flS t ∈ stgS c b a slip := fun t ht => by
  unfold stgS at *
  rw [List.mem_filter, full_mem] at *
  refine ⟨⟨ht.1.2.2, ht.1.2.1, ht.1.1⟩, ?_⟩
  have := ht.2
  unfold okS smS flS at *
  dsimp only at *
  rw [show t.2.2 + t.2.1 + t.1 = t.1 + t.2.1 + t.2.2 by omega]
  exact this
theorem key_one {f : List (Sg × Nat)} (nd : (keysS f).Nodup) {s : Sg} {m n : Nat} (h1 : (s, m) ∈ f) (h2 : (s, n) ∈ f) : m = n := by
  have e1 := lk_of_mem nd h1
  have e2 := lk_of_mem nd h2
  rw [e1] at e2
  exact Option.some.inj e2
theorem height_sym {A B C slip : Nat} {f f' : List (Sg × Nat)} (b1 : BO (stgS A B C slip) (0, B, C) f) (z1 : ∀ p ∈ f, p.2 = 0 → p.1 = (0, B, C)) (b2 : BO (stgS C B A slip) (0, B, A) f') (z2 : ∀ p ∈ f', p.2 = 0 → p.1 = (0, B, A))
    {n : Nat} (h : lkS f (A, B, 0) = some n) : lkS f' (C, B, 0) = some n := by
  have hs := mem_of_lk h
  have sr : (A, B, 0) ∈ stgS A B C slip := b1.sub _ (List.mem_map.mpr ⟨_, hs, rfl⟩)
  have gr : (0, B, C) ∈ stgS A B C slip := b1.sub _ (List.mem_map.mpr ⟨_, b1.g0, rfl⟩)
  have p1 : Pth (stgS C B A slip) n (C, B, 0) (0, B, A) := (((bo_path b1 z1 n _ hs).rev sr).flip (rows' := stgS C B A slip) stg_flip)
  obtain ⟨j, hj, hf⟩ := path_bo b2 p1 (stg_flip _ gr)
  have p2 : Pth (stgS A B C slip) j (A, B, 0) (0, B, C) := (((bo_path b2 z2 j _ hf).rev (stg_flip _ gr)).flip (rows' := stgS A B C slip) stg_flip)
  obtain ⟨k, hk, hf2⟩ := path_bo b1 p2 sr
  have := key_one b1.nd hs hf2
  have e : j = n := by omega
  subst e
  exact lk_of_mem b2.nd hf
end Ar
namespace Ar
open PySem PySem.Spec PyProof.Rows L2
/-! the timbers of a kind that a boat takes -/
theorem srt_nodup (l : List Int) : (isort (ddp l)).Nodup := (isort_perm _).nodup_iff.mpr (ddp_nodup l)
theorem mem_srt {x : Int} {l : List Int} : x ∈ isort (ddp l) ↔ x ∈ l := (isort_perm _).mem_iff.trans mem_ddp
theorem mem_her {boat K : List Int} {x : Int} : x ∈ herS boat K ↔ x ∈ boat ∧ x ∈ K := by
  unfold herS
  rw [List.mem_filter, mem_srt, decide_eq_true_eq]
theorem hr_nodup (boat K : List Int) : (herS boat K ++ (isort (ddp K)).filter fun x => !decide (x ∈ herS boat K)).Nodup := by
  refine List.nodup_append.mpr ⟨(srt_nodup boat).filter _, (srt_nodup K).filter _, fun x hx y hy e => ?_⟩
  subst e
  have := (List.mem_filter.mp hy).2
  simp [hx] at this
theorem hr_mem {boat K : List Int} {x : Int} : x ∈ (herS boat K ++ (isort (ddp K)).filter fun x => !decide (x ∈ herS boat K)) ↔ x ∈ K := by
  rw [List.mem_append, List.mem_filter, mem_srt]
  constructor
  · rintro (h | h)
    · exact (mem_her.mp h).2
    · exact h.1
  · intro h
    by_cases c : x ∈ boat
    · exact .inl (mem_her.mpr ⟨c, h⟩)
    · exact .inr ⟨h, by
        have : x ∉ herS boat K := fun z => c (mem_her.mp z).1
        simp [this]⟩
theorem pie_props {boat K : List Int} {n : Nat} (hK : K.Nodup) (hn : n ≤ K.length) : (pieS boat K n).Nodup ∧ (∀ x ∈ pieS boat K n, x ∈ K) ∧ (pieS boat K n).length = n ∧ ((pieS boat K n).filter fun x => decide (x ∈ boat)).length = min n (herS boat K).length := by
  have nd := hr_nodup boat K
  have lenK : (herS boat K ++ (isort (ddp K)).filter fun x => !decide (x ∈ herS boat K)).length = K.length :=
    ((List.perm_ext_iff_of_nodup nd hK).mpr fun x => hr_mem).length_eq
  refine ⟨(List.take_sublist _ _).nodup nd, fun x hx => hr_mem.mp (List.mem_of_mem_take hx), by unfold pieS; rw [List.length_take, lenK]; omega, ?_⟩
  unfold pieS
  rw [List.take_append]
  rw [List.filter_append]
  have f1 : ((herS boat K).take n).filter (fun x => decide (x ∈ boat)) = (herS boat K).take n := List.filter_eq_self.mpr fun x hx => decide_eq_true (mem_her.mp (List.mem_of_mem_take hx)).1
  have f2 : (((isort (ddp K)).filter fun x => !decide (x ∈ herS boat K)).take (n - (herS boat K).length)).filter (fun x => decide (x ∈ boat)) = [] := by
    rw [List.filter_eq_nil_iff]
    intro x hx c
    have h := List.mem_filter.mp (List.mem_of_mem_take hx)
    have : x ∈ herS boat K := mem_her.mpr ⟨of_decide_eq_true c, mem_srt.mp h.1⟩
    simp [this] at h
  rw [f1, f2, List.append_nil, List.length_take]
theorem rs_lenN {l : List Int} (h : l.Nodup) : (rs l).length = l.length :=
  ((List.perm_ext_iff_of_nodup (srt_nodup l) h).mpr fun _ => mem_srt).length_eq
structure Knd (K0 K1 K2 : List Int) : Prop where
  n0 : K0.Nodup
  n1 : K1.Nodup
  n2 : K2.Nodup
  d01 : ∀ x ∈ K0, x ∉ K1
  d02 : ∀ x ∈ K0, x ∉ K2
  d12 : ∀ x ∈ K1, x ∉ K2
section
variable {K0 K1 K2 : List Int} (hK : Knd K0 K1 K2) (boat : List Int) {t : Sg} (t0 : t.1 ≤ K0.length) (t1 : t.2.1 ≤ K1.length) (t2 : t.2.2 ≤ K2.length)
theorem mem_ref {x : Int} : x ∈ refB boat K0 K1 K2 t ↔ x ∈ pieS boat K0 t.1 ∨ x ∈ pieS boat K1 t.2.1 ∨ x ∈ pieS boat K2 t.2.2 := by
  unfold refB
  rw [mem_rs, List.mem_append, List.mem_append]
include hK t0 t1 t2
theorem ref_nodup : (pieS boat K0 t.1 ++ (pieS boat K1 t.2.1 ++ pieS boat K2 t.2.2)).Nodup := by
  obtain ⟨a1, a2, a3, a4⟩ := pie_props (boat := boat) hK.n0 t0
  obtain ⟨b1, b2, b3, b4⟩ := pie_props (boat := boat) hK.n1 t1
  obtain ⟨c1, c2, c3, c4⟩ := pie_props (boat := boat) hK.n2 t2
  refine List.nodup_append.mpr ⟨a1, List.nodup_append.mpr ⟨b1, c1, fun x hx y hy e => ?_⟩, fun x hx y hy e => ?_⟩
  · subst e; exact hK.d12 _ (b2 _ hx) (c2 _ hy)
  · subst e
    rcases List.mem_append.mp hy with q | q
    · exact hK.d01 _ (a2 _ hx) (b2 _ q)
    · exact hK.d02 _ (a2 _ hx) (c2 _ q)
theorem ref_len : (refB boat K0 K1 K2 t).length = smS t := by
  have nd := ref_nodup hK boat t0 t1 t2
  unfold refB smS
  rw [rs_lenN nd, List.length_append, List.length_append, (pie_props hK.n0 t0).2.2.1, (pie_props hK.n1 t1).2.2.1, (pie_props hK.n2 t2).2.2.1]
  omega
theorem ref_cnt : (herS (refB boat K0 K1 K2 t) K0).length = t.1 ∧ (herS (refB boat K0 K1 K2 t) K1).length = t.2.1 ∧ (herS (refB boat K0 K1 K2 t) K2).length = t.2.2 := by
  obtain ⟨a1, a2, a3, _⟩ := pie_props (boat := boat) hK.n0 t0
  obtain ⟨b1, b2, b3, _⟩ := pie_props (boat := boat) hK.n1 t1
  obtain ⟨c1, c2, c3, _⟩ := pie_props (boat := boat) hK.n2 t2
  have nh : ∀ K, (herS (refB boat K0 K1 K2 t) K).Nodup := fun K => (srt_nodup _).filter _
  refine ⟨?_, ?_, ?_⟩
  · rw [← a3]
    refine ((List.perm_ext_iff_of_nodup (nh K0) a1).mpr fun x => ?_).length_eq
    rw [mem_her, mem_ref]
    constructor
    · rintro ⟨h | h | h, hx⟩
      · exact h
      · exact absurd (b2 _ h) (hK.d01 _ hx)
      · exact absurd (c2 _ h) (hK.d02 _ hx)
    · exact fun h => ⟨.inl h, a2 _ h⟩
  · rw [← b3]
    refine ((List.perm_ext_iff_of_nodup (nh K1) b1).mpr fun x => ?_).length_eq
    rw [mem_her, mem_ref]
    constructor
    · rintro ⟨h | h | h, hx⟩
      · exact absurd hx (hK.d01 _ (a2 _ h))
      · exact h
      · exact absurd (c2 _ h) (hK.d12 _ hx)
    · exact fun h => ⟨.inr (.inl h), b2 _ h⟩
  · rw [← c3]
    refine ((List.perm_ext_iff_of_nodup (nh K2) c1).mpr fun x => ?_).length_eq
    rw [mem_her, mem_ref]
    constructor
    · rintro ⟨h | h | h, hx⟩
      · exact absurd hx (hK.d02 _ (a2 _ h))
      · exact absurd hx (hK.d12 _ (b2 _ h))
      · exact h
    · exact fun h => ⟨.inr (.inr h), c2 _ h⟩
theorem ref_com : ((isort (ddp boat)).filter fun x => decide (x ∈ refB boat K0 K1 K2 t)).length = miS ((herS boat K0).length, (herS boat K1).length, (herS boat K2).length) t := by
  obtain ⟨a1, a2, a3, a4⟩ := pie_props (boat := boat) hK.n0 t0
  obtain ⟨b1, b2, b3, b4⟩ := pie_props (boat := boat) hK.n1 t1
  obtain ⟨c1, c2, c3, c4⟩ := pie_props (boat := boat) hK.n2 t2
  have nd := ref_nodup hK boat t0 t1 t2
  have e : ((isort (ddp boat)).filter fun x => decide (x ∈ refB boat K0 K1 K2 t)).length = ((pieS boat K0 t.1 ++ (pieS boat K1 t.2.1 ++ pieS boat K2 t.2.2)).filter fun x => decide (x ∈ boat)).length := by
    refine ((List.perm_ext_iff_of_nodup ((srt_nodup boat).filter _) (nd.filter _)).mpr fun x => ?_).length_eq
    rw [List.mem_filter, List.mem_filter, mem_srt, decide_eq_true_eq, decide_eq_true_eq, mem_ref, List.mem_append, List.mem_append]
    exact And.comm
  rw [e, List.filter_append, List.filter_append, List.length_append, List.length_append, a4, b4, c4]
  unfold miS
  dsimp only
  omega
end
end Ar
namespace Ar
open PySem PySem.Spec PyProof.Rows L2
/-! the law walks a plan -/
theorem wk_turn (a b here boat : List Int) (slip : Int) (pl u : T) (ha : a.length < 64) (hb : b.length < 64) (hh : here.length < 64) (h0 : boat.length < 64) (e : isort (ddp boat) = boat) (h1 : (1 : Int) ≤ boat.length) (h2 : (boat.length : Int) ≤ slip) (h3 : smI here boat = true) (h4 : ∀ x ∈ boat, x ∈ a ∨ x ∈ b) :
    l0_law_walks [.z (.lst (nD a)), .z (.lst (nD b)), .z (.int slip), pl, .z (.lst (nD here)), .z (.lst (nD boat)), .gone] = .nx [.z (.lst (nD a)), .z (.lst (nD b)), .z (.int slip), pl, .z (.lst (nD boat)), .z (.lst (nD boat)), .gone] := by
  have l4 : boat.length < 4000 := by omega
  have ddl := ddp_length boat
  have l5 : (ddp boat).length < 64 := by omega
  have es : m_law_set [.z (.lst (nD boat))] = .ok (.l (nT boat)) [.z (.lst (nD boat))] := by
    unfold m_law_set b_law_set
    simp -implicitDefEqProofs [l4, l5, e]
  have el := like_ok (.z (.lst (nD here))) (.z (.lst (nD boat))) here boat hh h0 (.inl rfl) (.inl rfl)
  rw [h3] at el
  have ne : oNe (.lst (nD boat)) (.lst (nD boat)) = some (.z (.bl false)) := oNe_refl (k := 1) (by simp) (by omega)
  have ec : compR [6] (Tg.n 6).put (M.ret true) (zT (orV (binA oIn (see (seeN 6)) (seeN 0)) (binA oIn (see (seeN 6)) (seeN 1)))) (nD boat) [.z (.lst (nD a)), .z (.lst (nD b)), .z (.int slip), pl, .z (.lst (nD here)), .z (.lst (nD boat)), .gone] = .ok (boat.map fun _ => .bl true) [.z (.lst (nD a)), .z (.lst (nD b)), .z (.int slip), pl, .z (.lst (nD here)), .z (.lst (nD boat)), .gone] := by
    generalize T.z (.lst (nD boat)) = zb
    generalize T.z (.lst (nD here)) = zh
    refine compR_map D.int (fun _ => .bl true) rfl fun x hx => ?_
    by_cases c : x ∈ a
    · simp -implicitDefEqProofs [c]
    · have c2 : x ∈ b := (h4 x hx).resolve_left c
      simp -implicitDefEqProofs [c, c2]
  have ea : oAll (.lst (boat.map fun _ => D.bl true)) = some (.z (.bl true)) := by
    have : (boat.map fun _ => D.bl true) = (boat.map fun _ => true).map D.bl := by rw [List.map_map]; rfl
    rw [this]
    show (match blsD ((boat.map fun _ => true).map D.bl) with | some ns => some (T.z (.bl (ns.all id))) | none => none) = _
    rw [bls_of]
    dsimp only
    have : ((boat.map fun _ => true).all id) = true := by rw [List.all_eq_true]; intro x hx; obtain ⟨_, _, rfl⟩ := List.mem_map.mp hx; rfl
    rw [this]
  have lm : (boat.map fun _ => D.bl true).length ≤ lim := by rw [List.length_map]; unfold lim; omega
  have lm2 : boat.length ≤ lim := by unfold lim; omega
  generalize (boat.map fun _ => D.bl true) = mb at *
  generalize hm : (boat.length : Int) = m at *
  unfold l0_law_walks
  simp -implicitDefEqProofs [es, ne, hm, h1, h2, el, ec, lm, ea]
/-- what the law asks of a plan, boat by boat -/
def wkB (a b : List Int) (slip : Int) : List Int → List (List Int) → Prop
  | _, [] => True
  | here, boat :: P => isort (ddp boat) = boat ∧ boat.length < 64 ∧ (1 : Int) ≤ boat.length ∧ (boat.length : Int) ≤ slip ∧ smI here boat = true ∧ (∀ x ∈ boat, x ∈ a ∨ x ∈ b) ∧ wkB a b slip boat P
def lstB : List Int → List (List Int) → List Int
  | here, [] => here
  | _, boat :: P => lstB boat P
theorem wk_loop (a b : List Int) (slip : Int) (pl : T) (ha : a.length < 64) (hb : b.length < 64) : ∀ (P : List (List Int)) (here : List Int) (u : T), here.length < 64 → wkB a b slip here P →
    ∃ u', loopS (Tg.n 5).put l0_law_walks (P.map fun x => .lst (nD x)) [.z (.lst (nD a)), .z (.lst (nD b)), .z (.int slip), pl, .z (.lst (nD here)), u, .gone] = .nx [.z (.lst (nD a)), .z (.lst (nD b)), .z (.int slip), pl, .z (.lst (nD (lstB here P))), u', .gone]
  | [], here, u, _, _ => ⟨u, rfl⟩
  | boat :: P, here, u, hh, h => by
    obtain ⟨e, h0, h1, h2, h3, h4, h5⟩ := h
    have t := wk_turn a b here boat slip pl u ha hb hh h0 e h1 h2 h3 h4
    obtain ⟨u', ih⟩ := wk_loop a b slip pl ha hb P boat (.z (.lst (nD boat))) h0 h5
    refine ⟨u', ?_⟩
    rw [List.map_cons, loopS_cons]
    show _ = RS.nx [_, _, _, _, .z (.lst (nD (lstB boat P))), u', .gone]
    rw [← ih]
    generalize l0_law_walks = B at *
    simp -implicitDefEqProofs [t]
theorem lstB_len : ∀ {P : List (List Int)} {here : List Int} {a b slip}, here.length < 64 → wkB a b slip here P → (lstB here P).length < 64
  | [], _, _, _, _, h, _ => h
  | _ :: P, _, _, _, _, _, h => lstB_len (P := P) h.2.1 h.2.2.2.2.2.2
theorem law_walks_ok (a b : List Int) (slip : Int) (P : List (List Int)) (ha : a.length < 64) (hb : b.length < 64) (h : wkB a b slip a P) (he : isort (ddp (lstB a P)) = isort (ddp b)) :
    m_law_walks [.z (.lst (nD a)), .z (.lst (nD b)), .z (.int slip), .z (.lst (P.map fun x => .lst (nD x)))] = .ok (.z (.bl true)) [.z (.lst (nD a)), .z (.lst (nD b)), .z (.int slip), .z (.lst (P.map fun x => .lst (nD x)))] := by
  obtain ⟨u', e⟩ := wk_loop a b slip (.z (.lst (P.map fun x => .lst (nD x)))) ha hb P a .gone ha h
  have hl := lstB_len ha h
  have set_ : ∀ l : List Int, l.length < 64 → m_law_set [.z (.lst (nD l))] = .ok (.l (nT (isort (ddp l)))) [.z (.lst (nD l))] := fun l hl => by
    have l4 : l.length < 4000 := by omega
    have ddl := ddp_length l
    have l5 : (ddp l).length < 64 := by omega
    unfold m_law_set b_law_set
    simp -implicitDefEqProofs [l4, l5]
  have s1 := set_ _ hl
  have s2 := set_ b hb
  rw [he] at s1
  have eq : oEq (.lst (nD (isort (ddp b)))) (.lst (nD (isort (ddp b)))) = some (.z (.bl true)) := oEq_refl (k := 1) (by simp) (by omega)
  generalize (P.map fun x => D.lst (nD x)) = pl at *
  generalize lstB a P = last at *
  generalize isort (ddp b) = srt at *
  unfold m_law_walks b_law_walks
  generalize l0_law_walks = B at *
  simp -implicitDefEqProofs [e, s1, s2, eq]
end Ar
namespace Ar
open PySem PySem.Spec PyProof.Rows L2
theorem pln_wk {f : List (Sg × Nat)} {K0 K1 K2 a b : List Int} {goal : Sg} {slip : Nat} (hK : Knd K0 K1 K2) (hf : ∀ t ∈ keysS f, (t.1 ≤ K0.length ∧ t.2.1 ≤ K1.length ∧ t.2.2 ≤ K2.length) ∧ 1 ≤ smS t ∧ smS t ≤ slip) (hs : slip ≤ 12)
    (m0 : ∀ x ∈ K0, x ∈ a ∨ x ∈ b) (m1 : ∀ x ∈ K1, x ∈ a ∨ x ∈ b) (m2 : ∀ x ∈ K2, x ∈ a ∨ x ∈ b) : ∀ {n boat s P}, Pln f K0 K1 K2 goal n boat s P → (isort (ddp boat)).length = smS s → (herS boat K0).length = s.1 → (herS boat K1).length = s.2.1 → (herS boat K2).length = s.2.2 → wkB a b slip boat P := fun h => by
  induction h with
  | stop => intros; exact trivial
  | @go n boat s t P ht hn _ ih =>
    intro c0 c1 c2 c3
    obtain ⟨⟨t0, t1, t2⟩, s1, s2⟩ := hf t ht
    have hl := ref_len hK boat t0 t1 t2
    have hc := ref_cnt hK boat t0 t1 t2
    have hm := ref_com hK boat t0 t1 t2
    have hr : isort (ddp (refB boat K0 K1 K2 t)) = refB boat K0 K1 K2 t := by unfold refB; exact rs_rs _
    refine ⟨hr, by omega, by omega, by omega, ?_, fun x hx => ?_, ih (by rw [hr]; exact hl) hc.1 hc.2.1 hc.2.2⟩
    · rw [c1, c2, c3] at hm
      unfold smI rnI mcI
      rw [hr, hl, hm, c0]
      exact hn
    · rcases (mem_ref boat).mp hx with q | q | q
      · exact m0 _ ((pie_props hK.n0 t0).2.1 _ q)
      · exact m1 _ ((pie_props hK.n1 t1).2.1 _ q)
      · exact m2 _ ((pie_props hK.n2 t2).2.1 _ q)
end Ar
namespace Ar
open PySem PySem.Spec PyProof.Rows L2
theorem plan_len {f : List (Sg × Nat)} {K0 K1 K2 : List Int} {goal : Sg} : ∀ {n boat s P}, Pln f K0 K1 K2 goal n boat s P → P.length = n := fun h => by
  induction h with
  | stop => rfl
  | go _ _ _ ih => rw [List.length_cons, ih]
theorem pln_last {f : List (Sg × Nat)} {K0 K1 K2 : List Int} {goal : Sg} : ∀ {n boat s P}, Pln f K0 K1 K2 goal n boat s P → ∀ here, (P = [] ∧ s = goal) ∨ ∃ b0, lstB here P = refB b0 K0 K1 K2 goal := fun h => by
  induction h with
  | stop => exact fun _ => .inl ⟨rfl, rfl⟩
  | @go n boat s t P ht hn _ ih =>
    intro here
    rcases ih (refB boat K0 K1 K2 t) with ⟨rfl, rfl⟩ | ⟨b0, h⟩
    · exact .inr ⟨boat, rfl⟩
    · exact .inr ⟨b0, h⟩
theorem knd_of (a b : List Int) : Knd (K0L a b) (K1L a b) (K0L b a) := by
  have na : (rs a).Nodup := srt_nodup a
  have nb : (rs b).Nodup := srt_nodup b
  refine ⟨na.filter _, na.filter _, nb.filter _, fun x h1 h2 => ?_, fun x h1 h2 => ?_, fun x h1 h2 => ?_⟩
  · have a1 := (List.mem_filter.mp h1).2
    have a2 := (List.mem_filter.mp h2).2
    simp at a1 a2
    exact a1 a2
  · have a1 := (List.mem_filter.mp h1).1
    have a2 := (List.mem_filter.mp h2).2
    simp at a2
    exact a2 a1
  · have a1 := (List.mem_filter.mp h1).1
    have a2 := (List.mem_filter.mp h2).2
    simp at a2
    exact a2 a1
theorem her_K0 (a b : List Int) : herS (rs a) (K0L a b) = K0L a b := by
  unfold herS
  rw [show isort (ddp (rs a)) = rs a from rs_rs a]
  unfold K0L
  refine List.filter_congr fun x hx => ?_
  by_cases c : x ∈ rs b
  · simp [c]
  · simp [c, hx]
theorem her_K1 (a b : List Int) : herS (rs a) (K1L a b) = K1L a b := by
  unfold herS
  rw [show isort (ddp (rs a)) = rs a from rs_rs a]
  unfold K1L
  refine List.filter_congr fun x hx => ?_
  by_cases c : x ∈ rs b
  · simp [c, hx]
  · simp [c]
theorem her_K2 (a b : List Int) : herS (rs a) (K0L b a) = [] := by
  unfold herS
  rw [show isort (ddp (rs a)) = rs a from rs_rs a, List.filter_eq_nil_iff]
  intro x hx c
  have := (List.mem_filter.mp (of_decide_eq_true c)).2
  simp [hx] at this
theorem smI_rs (a x : List Int) : smI (rs a) x = smI a x := by
  unfold smI rnI mcI
  rw [show isort (ddp (rs a)) = isort (ddp a) from rs_rs a]
theorem wk_start {a b : List Int} {slip : Int} {P : List (List Int)} (h : wkB a b slip (rs a) P) : wkB a b slip a P := by
  cases P with
  | nil => exact trivial
  | cons x P =>
    obtain ⟨h1, h2, h3, h4, h5, h6, h7⟩ := h
    exact ⟨h1, h2, h3, h4, by rw [← smI_rs]; exact h5, h6, h7⟩
theorem plan_wk {a b : List Int} {slip : Nat} {rows : List Sg} {out : List (Sg × Nat)} (H : Tbl a b slip rows out) (B : BO rows (0, (K1L a b).length, (K0L b a).length) out) {n : Nat} {P : List (List Int)}
    (h : Pln out (K0L a b) (K1L a b) (K0L b a) (0, (K1L a b).length, (K0L b a).length) n (rs a) ((K0L a b).length, (K1L a b).length, 0) P) : wkB a b slip a P ∧ isort (ddp (lstB a P)) = isort (ddp b) := by
  have mA : ∀ x ∈ rs a, x ∈ a := fun x hx => mem_srt.mp hx
  have mB : ∀ x ∈ rs b, x ∈ b := fun x hx => mem_srt.mp hx
  have kn := knd_of a b
  constructor
  · refine wk_start (pln_wk kn (fun t ht => ?_) H.ok.s12 (fun x hx => .inl (mA _ (List.mem_filter.mp hx).1)) (fun x hx => .inl (mA _ (List.mem_filter.mp hx).1)) (fun x hx => .inr (mB _ (List.mem_filter.mp hx).1)) h ?_ ?_ ?_ ?_)
    · have h := B.sub t ht
      rw [H.hr] at h
      have hm := List.mem_filter.mp h
      have := full_mem.mp hm.1
      have h2 := hm.2
      unfold okS at h2
      rw [Bool.and_eq_true, decide_eq_true_eq, decide_eq_true_eq] at h2
      exact ⟨this, h2⟩
    · rw [show isort (ddp (rs a)) = rs a from rs_rs a]
      have := K_split a b
      unfold smS
      dsimp only
      omega
    · rw [her_K0]
    · rw [her_K1]
    · rw [her_K2]; rfl
  · rcases pln_last h a with ⟨rfl, e⟩ | ⟨b0, e⟩
    · injection e with e1 e2
      injection e2 with e2 e3
      have n0 : K0L a b = [] := List.length_eq_zero_iff.mp e1
      have n2 : K0L b a = [] := List.length_eq_zero_iff.mp e3.symm
      have f0 := List.filter_eq_nil_iff.mp n0
      have f2 := List.filter_eq_nil_iff.mp n2
      refine isort_eq fun x => ?_
      show x ∈ a ↔ x ∈ b
      constructor
      · intro hx
        have := f0 x (mem_srt.mpr hx)
        simp at this
        exact mB _ this
      · intro hx
        have := f2 x (mem_srt.mpr hx)
        simp at this
        exact mA _ this
    · rw [e]
      refine isort_eq fun x => ?_
      rw [mem_ref]
      have p1 := pie_props (boat := b0) kn.n1 (Nat.le_refl _)
      have p2 := pie_props (boat := b0) kn.n2 (Nat.le_refl _)
      have full : ∀ {K : List Int}, K.Nodup → ∀ x ∈ K, x ∈ pieS b0 K K.length := fun {K} hK x hx => by
        have nd := hr_nodup b0 K
        have lenK : (herS b0 K ++ (isort (ddp K)).filter fun x => !decide (x ∈ herS b0 K)).length = K.length :=
          ((List.perm_ext_iff_of_nodup nd hK).mpr fun x => hr_mem).length_eq
        unfold pieS
        rw [List.take_of_length_le (by rw [lenK]; exact Nat.le_refl _)]
        exact hr_mem.mpr hx
      constructor
      · rintro (h | h | h)
        · unfold pieS at h; rw [List.take_zero] at h; cases h
        · have := (List.mem_filter.mp (p1.2.1 _ h)).2
          simp at this
          exact mB _ this
        · exact mB _ (List.mem_filter.mp (p2.2.1 _ h)).1
      · intro hx
        have hr : x ∈ rs b := mem_srt.mpr hx
        by_cases c : x ∈ rs a
        · exact .inr (.inl (full kn.n1 x (List.mem_filter.mpr ⟨c, by simp [hr]⟩)))
        · exact .inr (.inr (full kn.n2 x (List.mem_filter.mpr ⟨hr, by simp [c]⟩)))
theorem start_in {a b : List Int} {slip : Nat} (H : CrOk a b slip) : (((K0L a b).length, (K1L a b).length, 0) : Sg) ∈ stgS (K0L a b).length (K1L a b).length (K0L b a).length slip := by
  unfold stgS
  rw [List.mem_filter, full_mem]
  refine ⟨⟨Nat.le_refl _, Nat.le_refl _, Nat.zero_le _⟩, ?_⟩
  have h := goal_in (H := CrOk.mk H.s1 H.s12 H.lb H.la H.b1 H.bs H.a1 H.as)
  unfold stgS at h
  rw [List.mem_filter] at h
  have h2 := h.2
  rw [okS_mk] at h2 ⊢
  rw [K1_comm a b]
  rw [show (K0L a b).length + (K1L b a).length + 0 = 0 + (K1L b a).length + (K0L a b).length by omega]
  exact h2
/-- the rows of the table at the start's stage -/
theorem row_one {rows : List Sg} (nd : rows.Nodup) {s : Sg} (hs : s ∈ rows) (out : List (Sg × Nat)) : (rowsT rows out).filter (fun r => decide (r.1 = s)) = [(s, lkI out s)] := by
  unfold rowsT
  rw [List.filter_map]
  have : (rows.filter ((fun r : Sg × Option Int => decide (r.1 = s)) ∘ fun s => (s, lkI out s))) = [s] := by
    have e : ((fun r : Sg × Option Int => decide (r.1 = s)) ∘ fun s => (s, lkI out s)) = fun x => decide (x = s) := rfl
    rw [e]
    clear e
    induction rows with
    | nil => cases hs
    | cons x l ih =>
      rw [List.nodup_cons] at nd
      by_cases c : x = s
      · subst c
        rw [List.filter_cons_of_pos (by simp)]
        congr 1
        rw [List.filter_eq_nil_iff]
        intro y hy z
        rw [decide_eq_true_eq] at z
        subst z
        exact nd.1 hy
      · rw [List.filter_cons_of_neg (by simpa using c)]
        refine ih nd.2 ?_
        rcases List.mem_cons.mp hs with z | z
        · exact absurd z.symm c
        · exact z
  rw [this]
  rfl
end Ar
namespace Ar
open PySem PySem.Spec PyProof.Rows L2
theorem compR_fm {α : Type} {vs : List Nat} {put : D → List T → Option (List T)} {mc : M Bool} {me : M D} {ts ts0 : List T} {l : List α} (i : α → D) (g : α → Option D) (e : wipeT ts vs = ts0)
    (h : ∀ x ∈ l, (cTurn put mc me (i x) ts0).wipe vs = .ok (g x) ts0) : compR vs put mc me (l.map i) ts = .ok (l.filterMap g) ts0 := by
  induction l generalizing ts with
  | nil => rw [List.map_nil, compR_nil, e]; rfl
  | cons x l ih =>
    have k2 := h x List.mem_cons_self
    rw [List.map_cons, compR_cons, e]
    cases q : cTurn put mc me (i x) ts0 with
    | bad => rw [q] at k2; cases k2
    | ex c t => rw [q] at k2; cases k2
    | ok o t =>
      rw [q, wipe_ok] at k2
      injection k2 with e1 e2
      subst e1
      have r := ih (ts := t) e2 fun z hz => h z (List.mem_cons_of_mem _ hz)
      cases hp : g x with
      | some y => rw [cmp_some, r, push_ok, List.filterMap_cons, hp]
      | none => rw [cmp_none, r, List.filterMap_cons, hp]
theorem fm_filter {α β : Type} (P : α → Bool) (f : α → β) : ∀ l : List α, l.filterMap (fun x => if P x = true then some (f x) else none) = (l.filter P).map f
  | [] => rfl
  | x :: l => by
    by_cases c : P x = true
    · rw [List.filterMap_cons, if_pos c, List.filter_cons_of_pos c, List.map_cons, fm_filter P f l]
    · rw [List.filterMap_cons, if_neg c, List.filter_cons_of_neg c, fm_filter P f l]
def plD (P : List (List Int)) : List D := P.map fun x => .lst (nD x)
theorem fzs_plT : ∀ P : List (List Int), T.fzs (plT P) = some (plD P)
  | [] => rfl
  | x :: P => by
    show T.fzs (.l (nT x) :: plT P) = _
    rw [T.fzs, fz_nT, fzs_plT P]; rfl
theorem fz_plT (P : List (List Int)) : T.fz (.l (plT P)) = some (.lst (plD P)) := by rw [T.fz, fzs_plT]
theorem frz_plT (P : List (List Int)) : frzT (.l (plT P)) = .z (.lst (plD P)) := by unfold frzT; rw [fz_plT]
theorem okq_plD (P : List (List Int)) : okq (.lst (plD P)) = true := okq_of (k := 2) (by
  show okds 1 (plD P) = true
  rw [okds_iff]
  intro d hd
  obtain ⟨s, _, rfl⟩ := List.mem_map.mp hd
  simp) (by omega)
theorem ne_plD (P : List (List Int)) : oNe (.lst (plD P)) (.lst []) = some (.z (.bl (!decide (P = [])))) := by
  cases P with
  | nil => exact oNe_refl (k := 1) rfl (by omega)
  | cons x P =>
    have o := okq_plD (x :: P)
    obtain ⟨e1, _⟩ := okq_py o
    have e2 : okq (.lst []) = true := okq_of (k := 1) rfl (by omega)
    unfold oNe
    rw [if_pos ⟨o, e2⟩]
    have : eqd (.lst (plD (x :: P))) (.lst []) = false := by
      unfold eqd
      have h1 : pyD (.lst []) = .list [] := rfl
      rw [h1]
      unfold pyD
      rw [D.py]
      cases q : D.pys (plD (x :: P)) with
      | none => rw [D.py, q] at e1; cases e1
      | some l =>
        dsimp only
        cases l with
        | nil =>
          exfalso
          have q : D.pys (.lst (nD x) :: plD P) = some [] := q
          rw [D.pys] at q
          split at q
          · cases q
          · cases q
        | cons y l => rw [PyData.eqv]; rfl
    rw [this]
    simp
theorem plD_len (P : List (List Int)) : (plD P).length = P.length := List.length_map _
theorem plT_len (P : List (List Int)) : (plT P).length = P.length := List.length_map _
theorem kept_append {x : List Int} {P : List (List Int)} {ts : List T} (h : ts[10]? = some (.l (plT (x :: P)))) (hl : x.length < 1000) : napD 10 ts (.int 0) (some (.int 0)) = .ok (.z .non) (ts.set 10 (.l ((plT (x :: P)).set 0 (.l (nT x ++ [.z (.int 0)]))))) := by
  refine napD_at (k := 0) h ?_ rfl ?_ rfl
  · rw [plT_len]
    unfold ixN
    simp
  · unfold nT; rw [List.length_map]; unfold lim; omega
end Ar
namespace Ar
open PySem PySem.Spec PyProof.Rows L2
theorem okm_oD (k : Nat) (o) : okm k (oD o) = true := by cases o <;> unfold oD <;> simp
theorem cutM (l : List Int) (a b) {x : Int} (h : x ∈ cutD l a b) : x ∈ l := by
  unfold cutD at h
  exact List.mem_of_mem_drop (List.mem_of_mem_take h)
/-- the height of the start's row -/
theorem hgt_comp {rows : List Sg} (nd : rows.Nodup) (out : List (Sg × Nat)) {n0 n1 n2 : Nat} (hs : ((n0, n1, 0) : Sg) ∈ rows) (z0 z1 z2 z3 z4 z6 z7 z8 z9 z10 z11 u : T) :
    compR [12] (Tg.n 12).put (tsB (binZ oEq (zT (slM (zT (rdz 12)) none (some (zT (kT (.int 3)))))) (zT (tupM (argEx (binA oIx (see (seeN 5)) (kA (.int 0))) (argEx (binA oIx (see (seeN 5)) (kA (.int 1))) (argEx (kT (.int 0)) (M.ret [])))))))) (zT (binA oIx (see (seeN 12)) (kA (.int 3)))) ((rowsT rows out).map rwS)
      [z0, z1, z2, z3, z4, .z (sgD (n0, n1, n2)), z6, z7, z8, z9, z10, z11, u] = .ok [oD (lkI out (n0, n1, 0))] [z0, z1, z2, z3, z4, .z (sgD (n0, n1, n2)), z6, z7, z8, z9, z10, z11, .gone] := by
  have h1 : (rowsT rows out).filterMap (fun r => if decide (r.1 = ((n0, n1, 0) : Sg)) = true then some (oD r.2) else none) = [oD (lkI out (n0, n1, 0))] := by
    rw [fm_filter (fun r : Sg × Option Int => decide (r.1 = ((n0, n1, 0) : Sg))) (fun r => oD r.2), row_one nd hs out]
    rfl
  rw [← h1]
  refine compR_fm rwS _ rfl fun r hr => ?_
  have a3 := at3r r
  have r3 := row3 r
  have q := oEq_sg r.1 (n0, n1, 0)
  have i0 : oIx (sgD (n0, n1, n2)) (.int 0) = some (.z (.int n0)) := rfl
  have i1 : oIx (sgD (n0, n1, n2)) (.int 1) = some (.z (.int n1)) := rfl
  have gd : D.tup [.int (n0 : Int), .int (n1 : Int), .int 0] = sgD (n0, n1, 0) := rfl
  generalize sgD (n0, n1, n2) = sd at *
  generalize sgD (n0, n1, 0) = td at *
  generalize sgD r.1 = rd at *
  generalize rwS r = rw0 at *
  generalize oD r.2 = od at *
  by_cases c : r.1 = ((n0, n1, 0) : Sg)
  · rw [decide_eq_true c] at q ⊢
    simp -implicitDefEqProofs [a3, r3, i0, i1, gd, q]
  · rw [decide_eq_false c] at q ⊢
    simp -implicitDefEqProofs [a3, r3, i0, i1, gd, q]
theorem oD_list_none (o : Option Int) : oEq (.lst [oD o]) (.lst [.non]) = some (.z (.bl (decide (o = none)))) := by
  cases o <;> rfl
theorem law_true : LawTrue := fun ns hns => by
  have hb := begin_ok ns
  generalize beginD ns = d0 at *
  obtain ⟨s', d1, e0, s1, s2⟩ := slip_ok d0
  obtain ⟨s, hs⟩ : ∃ s : Nat, s' = s := ⟨s'.toNat, by omega⟩
  subst hs
  obtain ⟨a, b, d2, e1, A0, AL, B0, BL⟩ := ends_ok d1 s (by omega) (by omega)
  have ra := rs_len a
  have rb := rs_len b
  have an : a ≠ [] := fun e => by rw [e] at A0; simp at A0
  have bn : b ≠ [] := fun e => by rw [e] at B0; simp at B0
  have H : CrOk a b s := crok_of (by omega) (by omega) (by omega) (by omega) an bn (by omega) (by omega)
  obtain ⟨rows, out, TB, BOk⟩ := tbl_ex H
  obtain ⟨l0, l1, l2, lr, nd⟩ := TB.len
  have kd := law_kinds_ok a b H.la H.lb
  have he := heights_ok TB
  have gt := law_good_table_ok TB BOk
  have fe := fewest_ok TB
  have tk := take_ok d2 3 (by omega) (by omega)
  have t0 := take_lo d2 (m := 3) (by omega)
  have t1 := take_hi d2 (m := 3) (by omega)
  generalize (d2.take 3).1 = r at *
  generalize (d2.take 3).2 = d3 at *
  have clb := cutD_length b none (some r)
  have qa : rs a.reverse = rs a := isort_eq fun x => List.mem_reverse
  have qb : rs (b ++ cutD b none (some r)) = rs b := isort_eq fun x => by
    rw [List.mem_append]; exact ⟨fun q => q.elim id (cutM b _ _), .inl⟩
  have H' : CrOk a.reverse (b ++ cutD b none (some r)) s := crok_of (by omega) (by omega) (by rw [List.length_reverse]; omega) (by rw [List.length_append]; omega)
    (fun e => an (List.reverse_eq_nil_iff.mp e)) (fun e => bn (List.append_eq_nil_iff.mp e).1) (by rw [qa]; omega) (by rw [qb]; omega)
  have TB' := TB.move qa qb H'
  have k0 : K0L a.reverse (b ++ cutD b none (some r)) = K0L a b := by unfold K0L; rw [qa, qb]
  have k1 : K1L a.reverse (b ++ cutD b none (some r)) = K1L a b := by unfold K1L; rw [qa, qb]
  have k2 : K0L (b ++ cutD b none (some r)) a.reverse = K0L b a := by unfold K0L; rw [qa, qb]
  obtain ⟨R, ec, cn, cs⟩ := carried_okP TB' (by rw [k1, k2]; exact BOk)
  rw [k0, k1] at cn cs
  rw [k2, qa] at cs
  have sr : (((K0L a b).length, (K1L a b).length, 0) : Sg) ∈ rows := by rw [TB.hr]; exact start_in H
  have em : (rowsT rows out).map (fun r => T.z (rwS r)) = ((rowsT rows out).map rwS).map T.z := by rw [List.map_map]; rfl
  rw [em] at he
  have ll : ((rowsT rows out).map rwS).length ≤ lim := by rw [List.length_map]; unfold lim; unfold rowsT; rw [List.length_map]; omega
  have hc := hgt_comp nd out (n2 := (K0L b a).length) sr
  have smf : m_law_same 6 [.z (.lst [oD (lkI out ((K0L a b).length, (K1L a b).length, 0))]), .z (.lst [oD (lkI out ((K0L a b).length, (K1L a b).length, 0))])] = .ok (.z (.bl true)) [.z (.lst [oD (lkI out ((K0L a b).length, (K1L a b).length, 0))]), .z (.lst [oD (lkI out ((K0L a b).length, (K1L a b).length, 0))])] := same_ok 5 _ (by rw [okm_lst]; simp [okm_oD])
  have lb2 : b.length + (cutD b none (some r)).length ≤ lim := by unfold lim; omega
  have la3 : a.length ≤ lim := by unfold lim; omega
  have lb3 : (b ++ cutD b none (some r)).length ≤ lim := by rw [List.length_append]; exact lb2
  have la4 : a.reverse.length ≤ lim := by rw [List.length_reverse]; exact la3
  generalize ha2 : a.reverse = a2 at *
  generalize hb2 : b ++ cutD b none (some r) = b2 at *
  have ne : oNe (.tup [.lst (nD a2), .lst (nD b2)]) (.tup [.lst (nD a2), .lst (nD b2)]) = some (.z (.bl false)) := oNe_refl (k := 2) (by simp) (by omega)
  -- as far as the first plan
  have part1 : ∀ k : S, (sq q0_law (sq q1_law (sq q2_law (sq q3_law (sq q4_law (sq q5_law (sq q6_law (sq q7_law (sq q8_law (sq q9_law (sq q10_law k))))))))))) [.z (.scr ns), .gone, .gone, .gone, .gone, .gone, .gone, .gone, .gone, .gone, .gone, .gone, .gone] =
      k [.z (.scr ns), .l (drL d3), .z (.int s), .z (.lst (nD a)), .z (.lst (nD b)), .z (sgD ((K0L a b).length, (K1L a b).length, (K0L b a).length)), .z (.lst ((rowsT rows out).map rwS)), .z (.lst [oD (lkI out ((K0L a b).length, (K1L a b).length, 0))]), .z (.tup [.lst (nD a2), .lst (nD b2)]), .z (.tup [.lst (nD a2), .lst (nD b2)]), R, .gone, .gone] := by
    intro k
    clear cn cs
    generalize (rowsT rows out).map rwS = RR at *
    generalize oD (lkI out ((K0L a b).length, (K1L a b).length, 0)) = od at *
    generalize sgD ((K0L a b).length, (K1L a b).length, (K0L b a).length) = so at *
    unfold q0_law q1_law q2_law q3_law q4_law q5_law q6_law q7_law q8_law q9_law q10_law
    simp -implicitDefEqProofs [hb, e0, asgS, e1, kd, ll, lb2, ha2, hb2, tk, la3, lb3, la4, he, ne, gt, fe, hc, smf, ec]
  -- the end
  have fin : ∀ (k : S) (res : List T), k [.z (.scr ns), .l (drL d3), .z (.int s), .z (.lst (nD a)), .z (.lst (nD b)), .z (sgD ((K0L a b).length, (K1L a b).length, (K0L b a).length)), .z (.lst ((rowsT rows out).map rwS)), .z (.lst [oD (lkI out ((K0L a b).length, (K1L a b).length, 0))]), .z (.tup [.lst (nD a2), .lst (nD b2)]), .z (.tup [.lst (nD a2), .lst (nD b2)]), R, .gone, .gone] = .rt (.z (.bl true)) (.z (.scr ns) :: res) → res.length = 12 →
      b_law = (sq q0_law (sq q1_law (sq q2_law (sq q3_law (sq q4_law (sq q5_law (sq q6_law (sq q7_law (sq q8_law (sq q9_law (sq q10_law k))))))))))) → ∃ fins, m_law [.z (.scr ns)] = .ok (.z (.bl true)) fins := by
    intro k res hk hl he
    refine ⟨[.z (.scr ns)], ?_⟩
    unfold m_law
    rw [he, bodyR_ap]
    show ((sq q0_law (sq q1_law (sq q2_law (sq q3_law (sq q4_law (sq q5_law (sq q6_law (sq q7_law (sq q8_law (sq q9_law (sq q10_law k))))))))))) [.z (.scr ns), .gone, .gone, .gone, .gone, .gone, .gone, .gone, .gone, .gone, .gone, .gone, .gone]).fin 13 [true] = _
    rw [part1, hk]
    match res, hl with
    | [x1, x2, x3, x4, x5, x6, x7, x8, x9, x10, x11, x12], _ => rfl
  cases q : lkS out ((K0L a b).length, (K1L a b).length, 0) with
  | none =>
    have eR := cn q
    subst eR
    have ei : oD (lkI out ((K0L a b).length, (K1L a b).length, 0)) = .non := by unfold lkI; rw [q]; rfl
    rw [ei] at fin
    have el := oD_list_none none
    rw [show oD none = D.non from rfl, decide_eq_true rfl] at el
    clear part1 ec
    generalize (rowsT rows out).map rwS = RR at *
    generalize sgD ((K0L a b).length, (K1L a b).length, (K0L b a).length) = so at *
    refine fin _ [.l (drL d3), .z (.int s), .z (.lst (nD a)), .z (.lst (nD b)), .z so, .z (.lst RR), .z (.lst [.non]), .z (.tup [.lst (nD a2), .lst (nD b2)]), .z (.tup [.lst (nD a2), .lst (nD b2)]), .z .non, .gone, .gone] ?_ rfl rfl
    generalize (sq q12_law (sq q13_law (sq q14_law (sq q15_law (sq q16_law (sq q17_law RS.nx)))))) = rest
    unfold q11_law
    simp -implicitDefEqProofs [el]
  | some n =>
    obtain ⟨P, eR, hP⟩ := cs n q
    subst eR
    have ei : oD (lkI out ((K0L a b).length, (K1L a b).length, 0)) = .int n := by unfold lkI; rw [q]; rfl
    rw [ei] at fin
    have pw := plan_wk TB BOk hP
    have ww := law_walks_ok a b s P H.la H.lb pw.1 pw.2
    have pl := plan_len hP
    have H2 : CrOk b a s := ⟨H.s1, H.s12, H.lb, H.la, H.b1, H.bs, H.a1, H.as⟩
    obtain ⟨rows2, out2, TB2, BO2⟩ := tbl_ex H2
    obtain ⟨R2, ec2, cn2, cs2⟩ := carried_okP TB2 BO2
    have b1 := BOk
    rw [TB.hr] at b1
    have b2' := BO2
    rw [TB2.hr, K1_comm b a] at b2'
    have z1 := bf_zero TB.bf (goal := (0, (K1L a b).length, (K0L b a).length)) fun p hp _ => by rw [List.mem_singleton.mp hp]
    have z2 := bf_zero TB2.bf (goal := (0, (K1L b a).length, (K0L a b).length)) fun p hp _ => by rw [List.mem_singleton.mp hp]
    rw [K1_comm b a] at z2
    have q2 := height_sym b1 z1 b2' z2 q
    rw [← K1_comm b a] at q2
    obtain ⟨P2, eR2, hP2⟩ := cs2 n q2
    subst eR2
    have pw2 := plan_wk TB2 BO2 hP2
    have ww2 := law_walks_ok b a s P2 H.lb H.la pw2.1 pw2.2
    have pl2 := plan_len hP2
    have fz := fz_plT P
    have fz2 := fz_plT P2
    have frz := frz_plT P
    have neP := ne_plD P
    have pD := plD_len P
    have pD2 := plD_len P2
    change m_law_walks [_, _, _, .z (.lst (plD P))] = .ok _ [_, _, _, .z (.lst (plD P))] at ww
    change m_law_walks [_, _, _, .z (.lst (plD P2))] = .ok _ [_, _, _, .z (.lst (plD P2))] at ww2
    have nn : oNe (.lst [.int n]) (.lst [.int n]) = some (.z (.bl false)) := oNe_refl (k := 1) (by simp) (by omega)
    clear part1 fe smf hc
    generalize (rowsT rows out).map rwS = RR at *
    generalize sgD ((K0L a b).length, (K1L a b).length, (K0L b a).length) = so at *
    rw [← pl] at nn
    have key : ∃ res, res.length = 12 ∧ sq q11_law (sq q12_law (sq q13_law (sq q14_law (sq q15_law (sq q16_law (sq q17_law RS.nx)))))) [.z (.scr ns), .l (drL d3), .z (.int s), .z (.lst (nD a)), .z (.lst (nD b)), .z so, .z (.lst RR), .z (.lst [.int n]), .z (.tup [.lst (nD a2), .lst (nD b2)]), .z (.tup [.lst (nD a2), .lst (nD b2)]), .l (plT P), .gone, .gone] = .rt (.z (.bl true)) (.z (.scr ns) :: res) := by
      have p1 : ∀ k : S, sq q11_law (sq q12_law k) [.z (.scr ns), .l (drL d3), .z (.int s), .z (.lst (nD a)), .z (.lst (nD b)), .z so, .z (.lst RR), .z (.lst [.int n]), .z (.tup [.lst (nD a2), .lst (nD b2)]), .z (.tup [.lst (nD a2), .lst (nD b2)]), .l (plT P), .gone, .gone] =
          k [.z (.scr ns), .l (drL d3), .z (.int s), .z (.lst (nD a)), .z (.lst (nD b)), .z so, .z (.lst RR), .z (.lst [.int n]), .z (.tup [.lst (nD a2), .lst (nD b2)]), .z (.tup [.lst (nD a2), .lst (nD b2)]), .l (plT P), .gone, .gone] := by
        intro k
        rw [← pl]
        unfold q11_law q12_law
        simp -implicitDefEqProofs [frz, ww, nn, pD]
      have p2 : ∀ k : S, sq q13_law k [.z (.scr ns), .l (drL d3), .z (.int s), .z (.lst (nD a)), .z (.lst (nD b)), .z so, .z (.lst RR), .z (.lst [.int n]), .z (.tup [.lst (nD a2), .lst (nD b2)]), .z (.tup [.lst (nD a2), .lst (nD b2)]), .l (plT P), .gone, .gone] =
          k [.z (.scr ns), .l (drL d3), .z (.int s), .z (.lst (nD a)), .z (.lst (nD b)), .z so, .z (.lst RR), .z (.lst [.int n]), .z (.tup [.lst (nD a2), .lst (nD b2)]), .z (.tup [.lst (nD a2), .lst (nD b2)]), .l [], .gone, .gone] := by
        intro k
        cases P with
        | nil =>
          unfold q13_law
          rw [decide_eq_true rfl] at neP
          have e0 : plT [] = [] := rfl
          rw [e0] at frz ⊢
          simp -implicitDefEqProofs [frz, neP]
        | cons x P =>
          have hx : x.length < 1000 := by have := pw.1.2.1; omega
          have nz : decide (x :: P = []) = false := rfl
          rw [nz] at neP
          have na := fun u => kept_append (x := x) (P := P) (ts := [.z (.scr ns), .l (drL d3), .z (.int s), .z (.lst (nD a)), .z (.lst (nD b)), .z so, .z (.lst RR), .z (.lst [.int n]), .z (.tup [.lst (nD a2), .lst (nD b2)]), .z (.tup [.lst (nD a2), .lst (nD b2)]), .l (plT (x :: P)), .gone, u]) rfl hx
          have na := na .gone
          generalize hpp : plT (x :: P) = pp at *
          generalize plD (x :: P) = pd at *
          generalize nT x = xt at *
          unfold q13_law
          simp -implicitDefEqProofs [frz, neP, na]
      have p3 : ∃ res : List T, res.length = 12 ∧ sq q14_law (sq q15_law (sq q16_law (sq q17_law RS.nx))) [.z (.scr ns), .l (drL d3), .z (.int s), .z (.lst (nD a)), .z (.lst (nD b)), .z so, .z (.lst RR), .z (.lst [.int n]), .z (.tup [.lst (nD a2), .lst (nD b2)]), .z (.tup [.lst (nD a2), .lst (nD b2)]), .l [], .gone, .gone] = .rt (.z (.bl true)) (.z (.scr ns) :: res) := by
        refine ⟨[.l (drL d3), .z (.int s), .z (.lst (nD a)), .z (.lst (nD b)), .z so, .z (.lst RR), .z (.lst [.int n]), .z (.tup [.lst (nD a2), .lst (nD b2)]), .z (.tup [.lst (nD a2), .lst (nD b2)]), .l (plT P), .z (.lst (plD P2)), .gone], rfl, ?_⟩
        rw [← pl]
        rw [← pl] at pl2
        have pl3 : (P2.length : Int) = P.length := by omega
        unfold q14_law q15_law q16_law q17_law
        simp -implicitDefEqProofs [ec, frz, ww, nn, pD, ne, ec2, fz2, pD2, pl3, ww2]
      obtain ⟨res, hl, hk⟩ := p3
      refine ⟨res, hl, ?_⟩
      rw [p1, p2, hk]
    obtain ⟨res, hl, hk⟩ := key
    exact fin _ res hk hl rfl
end Ar
open PySem PySem.W PyProof.Rows
set_option maxHeartbeats 0 in
theorem PySem.Challenge.cw_argosy_k36_whole_plans_carry_and_none_is_holds : PySem.Challenge.rw_argosy_k36_whole_plans_carry_and_none_is.Holds := by
  w_on; o_law; k_head; (case hw => w_witness2)
  k_fill
  refine L2.walk_of (l := PySem.Challenge.rw_argosy_k36_whole_plans_carry_and_none_is) (n := 63) (k := 8) (x := "_law_script") (CX := fun w => L2.CX (PySem.Challenge.rw_argosy_k36_whole_plans_carry_and_none_is).prog w) (sp := fun w => Ar.spEnd _) rfl (by decide) rfl ⟨by decide, by decide, by decide⟩ (fun w h Y => PySem.W.kIn_of Y) ?F (fun _ _ a ns hl _ hS => ⟨a, ns, rfl, hS, hl, fun _ => rfl⟩) (fun w H s e s' h => by obtain ⟨_, _, _, _, _, _, _, _, _, _, _, _, h⟩ := h; exact h)
  case F =>
    intro w mg fa h KX G hmg
    refine' Ar.all_mk Ar.law_true KX G hmg ?a0 ?l0 ?c0 ?k0 ?a1 ?l1 ?c1 ?k1 ?a2 ?l2 ?c2 ?k2 ?a3 ?l3 ?c3 ?k3 ?a4 ?l4 ?c4 ?k4 ?a5 ?l5 ?c5 ?k5 ?a6 ?l6 ?c6 ?k6 ?a7 ?l7 ?c7 ?k7 ?a8 ?l8 ?c8 ?k8 ?a9 ?l9 ?c9 ?k9 ?a10 ?l10 ?c10 ?k10 ?a11 ?l11 ?c11 ?k11 ?a12 ?l12 ?c12 ?k12 ?a13 ?l13 ?c13 ?k13 ?a14 ?l14 ?c14 ?k14 ?a15 ?l15 ?c15 ?k15 ?a16 ?l16 ?c16 ?k16 ?a17 ?l17 ?c17 ?k17 ?a18 ?l18 ?c18 ?k18 ?a19 ?l19 ?c19 ?k19 ?a20 ?l20 ?c20 ?k20 ?a21 ?l21 ?c21 ?k21 ?a22 ?l22 ?c22 ?k22 ?a23 ?l23 ?c23 ?k23 ?a24 ?l24 ?c24 ?k24 ?a25 ?l25 ?c25 ?k25 ?a26 ?l26 ?c26 ?k26 ?a27 ?l27 ?c27 ?k27 ?a28 ?l28 ?c28 ?k28 ?a29 ?l29 ?c29 ?k29 ?a30 ?l30 ?c30 ?k30 ?z0 ?z1 ?z2 ?z3 ?z4 ?z5 ?z6 ?z7 ?z8 ?z9 ?z10 ?z11 ?z12 ?z13 ?z14 ?z15 ?xa0 ?xb0 ?xt0 ?yd0 ?xs0 ?xx0 ?xk0 ?xa1 ?xb1 ?xt1 ?yd1 ?xs1 ?xx1 ?xk1 ?gc0
    (case a0 => k_is); (case l0 => k_is); (case c0 => k_is); (case k0 => k_is); (case a1 => k_is); (case l1 => k_is); (case c1 => k_is); (case k1 => k_is); (case a2 => k_is); (case l2 => k_is); (case c2 => k_is); (case k2 => k_is); (case a3 => k_is); (case l3 => k_is); (case c3 => k_is); (case k3 => k_is); (case a4 => k_is); (case l4 => k_is); (case c4 => k_is); (case k4 => k_is); (case a5 => k_is); (case l5 => k_is); (case c5 => k_is); (case k5 => k_is); (case a6 => k_is); (case l6 => k_is); (case c6 => k_is); (case k6 => k_is); (case a7 => k_is); (case l7 => k_is); (case c7 => k_is); (case k7 => k_is); (case a8 => k_is); (case l8 => k_is); (case c8 => k_is); (case k8 => k_is); (case a9 => k_is); (case l9 => k_is); (case c9 => k_is); (case k9 => k_is); (case a10 => k_is); (case l10 => k_is); (case c10 => k_is); (case k10 => k_is); (case a11 => k_is); (case l11 => k_is); (case c11 => k_is); (case k11 => k_is); (case a12 => k_is); (case l12 => k_is); (case c12 => k_is); (case k12 => k_is); (case a13 => k_is); (case l13 => k_is); (case c13 => k_is); (case k13 => k_is); (case a14 => k_is); (case l14 => k_is); (case c14 => k_is); (case k14 => k_is); (case a15 => k_is); (case l15 => k_is); (case c15 => k_is); (case k15 => k_is); (case a16 => k_is); (case l16 => k_is); (case c16 => k_is); (case k16 => k_is); (case a17 => k_is); (case l17 => k_is); (case c17 => k_is); (case k17 => k_is); (case a18 => k_is); (case l18 => k_is); (case c18 => k_is); (case k18 => k_is); (case a19 => k_is); (case l19 => k_is); (case c19 => k_is); (case k19 => k_is); (case a20 => k_is); (case l20 => k_is); (case c20 => k_is); (case k20 => k_is); (case a21 => k_is); (case l21 => k_is); (case c21 => k_is); (case k21 => k_is); (case a22 => k_is); (case l22 => k_is); (case c22 => k_is); (case k22 => k_is); (case a23 => k_is); (case l23 => k_is); (case c23 => k_is); (case k23 => k_is); (case a24 => k_is); (case l24 => k_is); (case c24 => k_is); (case k24 => k_is); (case a25 => k_is); (case l25 => k_is); (case c25 => k_is); (case k25 => k_is); (case a26 => k_is); (case l26 => k_is); (case c26 => k_is); (case k26 => k_is); (case a27 => k_is); (case l27 => k_is); (case c27 => k_is); (case k27 => k_is); (case a28 => k_is); (case l28 => k_is); (case c28 => k_is); (case k28 => k_is); (case a29 => k_is); (case l29 => k_is); (case c29 => k_is); (case k29 => k_is); (case a30 => k_is); (case l30 => k_is); (case c30 => k_is); (case k30 => k_is); (case z0 => k_is); (case z1 => k_is); (case z2 => k_is); (case z3 => k_is); (case z4 => k_is); (case z5 => k_is); (case z6 => k_is); (case z7 => k_is); (case z8 => k_is); (case z9 => k_is); (case z10 => k_is); (case z11 => k_is); (case z12 => k_is); (case z13 => k_is); (case z14 => k_is); (case z15 => k_is); (case xa0 => k_is); (case xb0 => k_is); (case xt0 => k_is); (case yd0 => k_is); (case xs0 => k_is); (case xx0 => k_exc); (case xk0 => k_is); (case xa1 => k_is); (case xb1 => k_is); (case xt1 => k_is); (case yd1 => k_is); (case xs1 => k_is); (case xx1 => k_exc); (case xk1 => k_is); (case gc0 => k_is)
