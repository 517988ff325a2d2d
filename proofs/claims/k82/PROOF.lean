import PyProof.Rows.All
import Wide.All
import OpenK.AllK
import Wide.FinOn
import HandS.ForMost
import HandS.IsInst
import HandS.TupAny
import HandS.Deep
import HandS.Style
import HandS.Small
import HandS.Strs
import HandS.Property
import HandS.Defaults
import OpenK.KMore
import HandS.DictComp
import HandS.TupLen
import HandS.DictTup
import KE.KDictPairs
import KE.KDictDisplayH
import HandS.SetFor
import HandS.SortInts
import HandS.TupSets
import HandS.Zip
import KE.KDictZip
import HandS.FStr
import HandS.ClsMeth
import HandS.NoneIn
import HandS.Conv
import HandS.RaiseMore
import HandS.Ends
import HandS.Head0
import HandS.Head1
import HandS.Head2
import HandS.HeadEnd
import HandS.HeadHook1
import HandS.ExcInit
import HandS.ExcField
import HandS.WordsExc
import KE.KExcInit
import PySem.Challenge.RW_wirewords_k82_whole_resets_or_apart
set_option Elab.async false
set_option linter.all false
set_option maxRecDepth 100000
/-! DA: a layer of data over HandS: what stands in the heap as trees (D), lists and dicts of one's own by numbers (MO), big-step judgements. -/
namespace DL
open PySem PySem.Spec PyProof.Rows L2
/-! ### data -/
inductive D where
  | non
  | bl (b : Bool)
  | int (i : Int)
  | str (x : Str)
  | lst (xs : List D)
  | tup (xs : List D)
  | dic (t : Bool) (ks vs : List D)
  | ins (C : Addr) (ns : List Str) (vs : List D)
  /-- a list that is read alone (the script); a built-in type -/
  | rol (xs : List D)
  | ty (n : String)
  /-- a dict with tuples as keys, that stays as it is -/
  | lkd (ks : List (List Key)) (vs : List D)
  /-- a caught exception at a, its fields at e -/
  | exc (a e : Addr) (ns : List Str) (vs : List D)
def keyD : Key → D
  | .inl i => .int i
  | .inr x => .str x
def tkD (k : List Key) : D := .tup (k.map keyD)
/-- a dict to be read at a: its keys (tuples: t), its values -/
def DicAt (G : Hp) (a : Addr) : Bool → List D → List V → Prop
  | true, ks, vs => ∃ kvs : List (List Key × V), Rd G a (.dT kvs) ∧ ks = kvs.map (fun p => tkD p.1) ∧ vs = kvs.map (fun p => p.2)
  | false, ks, vs => ∃ kvs : List (Key × V), Rd G a (.dK kvs) ∧ ks = kvs.map (fun p => keyD p.1) ∧ vs = kvs.map (fun p => p.2)
mutual
inductive Dat (K : PySem.W.Frag) (G : Hp) : D → V → Prop
  | non : Dat K G .non .non
  | bl (b : Bool) : Dat K G (.bl b) (.bl b)
  | int (i : Int) : Dat K G (.int i) (.int i)
  | str (x : Str) : Dat K G (.str x) (.str x)
  | lst {ds : List D} {a : Addr} {vs : List V} : G a = some (.lst vs) → Dats K G ds vs → Dat K G (.lst ds) (.ref a)
  | tup {ds : List D} {a : Addr} {vs : List V} : G a = some (.tup vs) → Dats K G ds vs → Dat K G (.tup ds) (.ref a)
  | rol {ds : List D} {a : Addr} {vs : List V} : SqL K G a vs → Dats K G ds vs → Dat K G (.rol ds) (.ref a)
  | ty (n : String) : Dat K G (.ty n) (.ty n)
  | lkd {ds : List D} {a : Addr} {o : Obj} {kvs : List (List Key × V)} : G a = some (.frz o (.dT kvs)) → Dats K G ds (kvs.map fun p => p.2) → Dat K G (.lkd (kvs.map fun p => p.1) ds) (.ref a)
  | dic {t : Bool} {ks ds : List D} {a : Addr} {vs : List V} : DicAt G a t ks vs → Dats K G ds vs → Dat K G (.dic t ks ds) (.ref a)
  | exc {ns : List Str} {ds : List D} {a e : Addr} {vs : List V} : G e = some (.xd (ns.zip vs)) → ns.length = vs.length → Dats K G ds vs → Dat K G (.exc a e ns ds) (.ref a)
  | ins {C : Addr} {ns : List Str} {ds : List D} {a dx : Addr} {vs : List V} : G a = some (.ins C dx (ns.zip vs)) → ns.length = vs.length → Dats K G ds vs → Dat K G (.ins C ns ds) (.ref a)
inductive Dats (K : PySem.W.Frag) (G : Hp) : List D → List V → Prop
  | nil : Dats K G [] []
  | cons {d : D} {ds : List D} {v : V} {vs : List V} : Dat K G d v → Dats K G ds vs → Dats K G (d :: ds) (v :: vs)
end
section
variable {K : PySem.W.Frag} {G G' : Hp} {a : Addr}
theorem rd_mono {u : HO} (e : Same G G') (h : Rd G a u) : Rd G' a u := by
  rcases h with h | ⟨o, h⟩
  · exact .inl (e _ _ h)
  · exact .inr ⟨o, e _ _ h⟩
theorem sqt_mono {xs : List V} (e : Same G G') (h : SqT K G a xs) : SqT K G' a xs := by
  rcases h with h | h
  · exact .inl (rd_mono e h)
  · exact .inr h
theorem dicAt_mono {t : Bool} {ks : List D} {vs : List V} (e : Same G G') (h : DicAt G a t ks vs) : DicAt G' a t ks vs := by
  cases t with
  | true =>
    obtain ⟨kvs, h, r⟩ := h
    exact ⟨kvs, rd_mono e h, r⟩
  | false =>
    obtain ⟨kvs, h, r⟩ := h
    exact ⟨kvs, rd_mono e h, r⟩
mutual
theorem Dat.mono (e : Same G G') : ∀ (d : D) (v : V), Dat K G d v → Dat K G' d v
  | .non, _, h => by cases h; exact .non
  | .bl _, _, h => by cases h; exact .bl _
  | .int _, _, h => by cases h; exact .int _
  | .str _, _, h => by cases h; exact .str _
  | .lst ds, _, h => by
    cases h with
    | lst h1 h2 => exact .lst (e _ _ h1) (Dats.mono e ds _ h2)
  | .tup ds, _, h => by
    cases h with
    | tup h1 h2 => exact .tup (e _ _ h1) (Dats.mono e ds _ h2)
  | .rol ds, _, h => by
    cases h with
    | rol h1 h2 => exact .rol (e.seq h1) (Dats.mono e ds _ h2)
  | .ty n, _, h => by cases h; exact .ty _
  | .lkd ks ds, _, h => by
    cases h with
    | lkd h1 h2 => exact .lkd (e _ _ h1) (Dats.mono e ds _ h2)
  | .exc _ _ _ ds, _, h => by
    cases h with
    | exc h1 h3 h2 => exact .exc (e _ _ h1) h3 (Dats.mono e ds _ h2)
  | .dic t ks ds, _, h => by
    cases h with
    | dic h1 h2 => exact .dic (dicAt_mono e h1) (Dats.mono e ds _ h2)
  | .ins C ns ds, _, h => by
    cases h with
    | ins h1 h3 h2 => exact .ins (e _ _ h1) h3 (Dats.mono e ds _ h2)
theorem Dats.mono (e : Same G G') : ∀ (ds : List D) (vs : List V), Dats K G ds vs → Dats K G' ds vs
  | [], _, h => by cases h; exact .nil
  | d :: ds, _, h => by
    cases h with
    | cons h1 h2 => exact .cons (Dat.mono e d _ h1) (Dats.mono e ds _ h2)
end
theorem of_dats0 {vs : List V} (h : Dats K G [] vs) : vs = [] := by cases h; rfl
theorem of_dats {d : D} {ds : List D} {vs : List V} (h : Dats K G (d :: ds) vs) : ∃ v r, vs = v :: r ∧ Dat K G d v ∧ Dats K G ds r := by
  cases h with
  | cons h1 h2 => exact ⟨_, _, rfl, h1, h2⟩
theorem Dats.len : ∀ {ds : List D} {vs : List V}, Dats K G ds vs → vs.length = ds.length
  | [], _, h => by rw [of_dats0 h]; rfl
  | d :: ds, _, h => by
    obtain ⟨v, r, rfl, _, h2⟩ := of_dats h
    rw [List.length_cons, List.length_cons, h2.len]
theorem Dats.app : ∀ {ds es : List D} {vs ws : List V}, Dats K G ds vs → Dats K G es ws → Dats K G (ds ++ es) (vs ++ ws)
  | [], _, _, _, h, t => by rw [of_dats0 h]; exact t
  | d :: ds, _, _, _, h, t => by
    obtain ⟨v, r, rfl, h1, h2⟩ := of_dats h
    exact .cons h1 (h2.app t)
theorem Dats.get : ∀ {ds : List D} {vs : List V} {i : Nat} {d : D}, Dats K G ds vs → ds[i]? = some d → ∃ v, vs[i]? = some v ∧ Dat K G d v
  | [], _, _, _, _, e => by simp at e
  | d :: ds, _, 0, _, h, e => by
    obtain ⟨v, r, rfl, h1, h2⟩ := of_dats h
    simp at e
    subst e
    exact ⟨v, rfl, h1⟩
  | d :: ds, _, i + 1, _, h, e => by
    obtain ⟨v, r, rfl, h1, h2⟩ := of_dats h
    obtain ⟨w, e1, e2⟩ := h2.get (i := i) (by simpa using e)
    exact ⟨w, by simpa using e1, e2⟩
theorem Dats.get' : ∀ {ds : List D} {vs : List V} {i : Nat} {v : V}, Dats K G ds vs → vs[i]? = some v → ∃ d, ds[i]? = some d ∧ Dat K G d v
  | [], _, _, _, h, e => by rw [of_dats0 h] at e; simp at e
  | d :: ds, _, 0, _, h, e => by
    obtain ⟨v, r, rfl, h1, h2⟩ := of_dats h
    simp at e
    subst e
    exact ⟨d, rfl, h1⟩
  | d :: ds, _, i + 1, _, h, e => by
    obtain ⟨v, r, rfl, h1, h2⟩ := of_dats h
    obtain ⟨w, e1, e2⟩ := h2.get' (i := i) (by simpa using e)
    exact ⟨w, by simpa using e1, e2⟩
theorem Dats.take : ∀ {ds : List D} {vs : List V} (n : Nat), Dats K G ds vs → Dats K G (ds.take n) (vs.take n)
  | _, _, 0, _ => by simp only [List.take_zero]; exact .nil
  | [], _, _ + 1, h => by rw [of_dats0 h]; exact .nil
  | d :: ds, _, n + 1, h => by
    obtain ⟨v, r, rfl, h1, h2⟩ := of_dats h
    exact .cons h1 (h2.take n)
theorem Dats.drop : ∀ {ds : List D} {vs : List V} (n : Nat), Dats K G ds vs → Dats K G (ds.drop n) (vs.drop n)
  | _, _, 0, h => h
  | [], _, _ + 1, h => by rw [of_dats0 h]; exact .nil
  | d :: ds, _, n + 1, h => by
    obtain ⟨v, r, rfl, h1, h2⟩ := of_dats h
    exact h2.drop n
theorem Dats.rev : ∀ {ds : List D} {vs : List V}, Dats K G ds vs → Dats K G ds.reverse vs.reverse
  | [], _, h => by rw [of_dats0 h]; exact .nil
  | d :: ds, _, h => by
    obtain ⟨v, r, rfl, h1, h2⟩ := of_dats h
    rw [List.reverse_cons, List.reverse_cons]
    exact h2.rev.app (.cons h1 .nil)
theorem Dats.set : ∀ {ds : List D} {vs : List V} (n : Nat) {d : D} {v : V}, Dats K G ds vs → Dat K G d v → Dats K G (ds.set n d) (vs.set n v)
  | [], _, _, _, _, h, _ => by rw [of_dats0 h]; exact .nil
  | d :: ds, _, 0, _, _, h, e => by
    obtain ⟨v, r, rfl, h1, h2⟩ := of_dats h
    exact .cons e h2
  | d :: ds, _, n + 1, _, _, h, e => by
    obtain ⟨v, r, rfl, h1, h2⟩ := of_dats h
    exact .cons h1 (h2.set n e)
theorem of_int {i : Int} {v : V} (h : Dat K G (.int i) v) : v = .int i := by cases h; rfl
theorem of_bl {b : Bool} {v : V} (h : Dat K G (.bl b) v) : v = .bl b := by cases h; rfl
theorem of_str {x : Str} {v : V} (h : Dat K G (.str x) v) : v = .str x := by cases h; rfl
theorem of_non {v : V} (h : Dat K G .non v) : v = .non := by cases h; rfl
theorem of_ty {n : String} {v : V} (h : Dat K G (.ty n) v) : v = .ty n := by cases h; rfl
theorem of_lkd {ks : List (List Key)} {ds : List D} {v : V} (h : Dat K G (.lkd ks ds) v) : ∃ a o kvs, v = .ref a ∧ G a = some (.frz o (.dT kvs)) ∧ ks = kvs.map (fun p => p.1) ∧ Dats K G ds (kvs.map fun p => p.2) := by
  cases h with
  | lkd h1 h2 => exact ⟨_, _, _, rfl, h1, rfl, h2⟩
theorem of_exc {a e : Addr} {ns : List Str} {ds : List D} {v : V} (h : Dat K G (.exc a e ns ds) v) : ∃ vs, v = .ref a ∧ G e = some (.xd (ns.zip vs)) ∧ ns.length = vs.length ∧ Dats K G ds vs := by
  cases h with
  | exc h1 h2 h3 => exact ⟨_, rfl, h1, h2, h3⟩
theorem of_rol {ds : List D} {v : V} (h : Dat K G (.rol ds) v) : ∃ a vs, v = .ref a ∧ SqL K G a vs ∧ Dats K G ds vs := by
  cases h with
  | rol h1 h2 => exact ⟨_, _, rfl, h1, h2⟩
theorem of_lst {ds : List D} {v : V} (h : Dat K G (.lst ds) v) : ∃ a vs, v = .ref a ∧ G a = some (.lst vs) ∧ Dats K G ds vs := by
  cases h with
  | lst h1 h2 => exact ⟨_, _, rfl, h1, h2⟩
theorem of_tup {ds : List D} {v : V} (h : Dat K G (.tup ds) v) : ∃ a vs, v = .ref a ∧ G a = some (.tup vs) ∧ Dats K G ds vs := by
  cases h with
  | tup h1 h2 => exact ⟨_, _, rfl, h1, h2⟩
theorem of_dic {t : Bool} {ks ds : List D} {v : V} (h : Dat K G (.dic t ks ds) v) : ∃ a vs, v = .ref a ∧ DicAt G a t ks vs ∧ Dats K G ds vs := by
  cases h with
  | dic h1 h2 => exact ⟨_, _, rfl, h1, h2⟩
theorem of_ins {C : Addr} {ns : List Str} {ds : List D} {v : V} (h : Dat K G (.ins C ns ds) v) : ∃ a dx vs, v = .ref a ∧ G a = some (.ins C dx (ns.zip vs)) ∧ ns.length = vs.length ∧ Dats K G ds vs := by
  cases h with
  | ins h1 h2 h3 => exact ⟨_, _, _, rfl, h1, h2, h3⟩
theorem ints_dats : ∀ (ns : List Int), Dats K G (ns.map D.int) (ns.map V.int)
  | [] => .nil
  | n :: ns => .cons (.int n) (ints_dats ns)
theorem dats_ints : ∀ {ns : List Int} {vs : List V}, Dats K G (ns.map D.int) vs → vs = ns.map V.int
  | [], _, h => of_dats0 h
  | n :: ns, _, h => by
    obtain ⟨v, r, rfl, h1, h2⟩ := of_dats h
    rw [of_int h1, dats_ints h2]
    rfl
end
/-! ### states -/
inductive U where
  | dat (d : D)
  | own (n : Nat)
inductive MO where
  | lst (ds : List D)
  | dic (t : Bool) (ks vs : List D)
  | lsu (us : List U)
  | ins (C : Addr) (ns : List Str) (vs : List D)
structure DSt where
  g : List (Option U)
  m : List (Option MO)
def Live (m : List (Option MO)) (n : Nat) : Prop := ∃ mo, m[n]? = some (some mo)
def UV (K : PySem.W.Frag) (G : Hp) (α : Nat → Addr) (m : List (Option MO)) : U → V → Prop
  | .dat d, v => Dat K G d v
  | .own n, v => v = .ref (α n) ∧ Live m n
def UVs (K : PySem.W.Frag) (G : Hp) (α : Nat → Addr) (m : List (Option MO)) : List U → List V → Prop
  | [], vs => vs = []
  | u :: us, vs => ∃ v r, vs = v :: r ∧ UV K G α m u v ∧ UVs K G α m us r
def MV (K : PySem.W.Frag) (G : Hp) (α : Nat → Addr) (m : List (Option MO)) : MO → HO → Prop
  | .lst ds, o => ∃ vs, o = .lst vs ∧ Dats K G ds vs
  | .dic true ks ds, o => ∃ kvs : List (List Key × V), o = .dT kvs ∧ ks = kvs.map (fun p => tkD p.1) ∧ Dats K G ds (kvs.map (fun p => p.2))
  | .dic false ks ds, o => ∃ kvs : List (Key × V), o = .dK kvs ∧ ks = kvs.map (fun p => keyD p.1) ∧ Dats K G ds (kvs.map (fun p => p.2))
  | .lsu us, o => ∃ vs, o = .lst vs ∧ UVs K G α m us vs
  | .ins C ns ds, o => ∃ dx vs, o = .ins C dx (ns.zip vs) ∧ ns.length = vs.length ∧ Dats K G ds vs
structure Rl (K : PySem.W.Frag) (F G : Hp) (α : Nat → Addr) (S : DSt) (σ : L2.St) (H : Hp) : Prop where
  fF : Same F H
  fG : Same G H
  ln : S.g.length = σ.length
  sl : ∀ (i : Nat) (u : U), S.g[i]? = some (some u) → ∃ v, σ[i]? = some (some v) ∧ UV K G α S.m u v
  mu : ∀ (n : Nat) (mo : MO), S.m[n]? = some (some mo) → F (α n) = none ∧ G (α n) = none ∧ ∃ o, H (α n) = some o ∧ MV K G α S.m mo o
  inj : ∀ (n k : Nat), Live S.m n → Live S.m k → α n = α k → n = k
/-- the data's part of the heap grows; of what lies in the frame tuples alone may come -/
def GX (F G G' : Hp) : Prop := Same G G' ∧ ∀ a o, F a ≠ none → G a = none → G' a = some o → ∃ xs, o = .tup xs
def AX (S S' : DSt) (α α' : Nat → Addr) : Prop := α' 0 = α 0 ∧ ∀ n, Live S.m n → α' n = α n ∧ Live S'.m n
theorem GX.refl {F G : Hp} : GX F G G := ⟨Same.refl G, fun a o _ h1 h2 => by rw [h1] at h2; cases h2⟩
theorem GX.trans {F G G1 G2 : Hp} (a : GX F G G1) (b : GX F G1 G2) : GX F G G2 := ⟨a.1.trans b.1, fun c o hF hG h2 => by
  cases e : G1 c with
  | none => exact b.2 c o hF e h2
  | some o1 =>
    have := b.1 c o1 e
    rw [h2] at this
    cases this
    exact a.2 c o hF hG e⟩
theorem AX.refl {S : DSt} {α : Nat → Addr} : AX S S α α := ⟨rfl, fun _ h => ⟨rfl, h⟩⟩
theorem AX.trans {S S1 S2 : DSt} {α α1 α2 : Nat → Addr} (a : AX S S1 α α1) (b : AX S1 S2 α1 α2) : AX S S2 α α2 := ⟨b.1.trans a.1, fun n h => by
  obtain ⟨e1, l1⟩ := a.2 n h
  obtain ⟨e2, l2⟩ := b.2 n l1
  exact ⟨e2.trans e1, l2⟩⟩
section
variable {K : PySem.W.Frag} {F G G' : Hp} {α α' : Nat → Addr} {S S' : DSt} {σ : L2.St} {H H' : Hp} {m m' : List (Option MO)}
theorem UV.on {u : U} {v : V} (h : UV K G α m u v) (e : Same G G') (a : ∀ n, Live m n → α' n = α n ∧ Live m' n) : UV K G' α' m' u v := by
  cases u with
  | dat d => exact Dat.mono e d v h
  | own n =>
    obtain ⟨h1, h2⟩ := h
    obtain ⟨e1, e2⟩ := a n h2
    exact ⟨by rw [e1]; exact h1, e2⟩
theorem UVs.on : ∀ {us : List U} {vs : List V}, UVs K G α m us vs → Same G G' → (∀ n, Live m n → α' n = α n ∧ Live m' n) → UVs K G' α' m' us vs
  | [], _, h, _, _ => h
  | u :: us, _, ⟨v, r, e0, h1, h2⟩, e, a => ⟨v, r, e0, h1.on e a, h2.on e a⟩
theorem MV.on {mo : MO} {o : HO} (h : MV K G α m mo o) (e : Same G G') (a : ∀ n, Live m n → α' n = α n ∧ Live m' n) : MV K G' α' m' mo o := by
  cases mo with
  | lst ds =>
    obtain ⟨vs, rfl, h1⟩ := h
    exact ⟨vs, rfl, h1.mono e⟩
  | dic t ks ds =>
    cases t with
    | true =>
      obtain ⟨kvs, rfl, h1, h2⟩ := h
      exact ⟨kvs, rfl, h1, h2.mono e⟩
    | false =>
      obtain ⟨kvs, rfl, h1, h2⟩ := h
      exact ⟨kvs, rfl, h1, h2.mono e⟩
  | lsu us =>
    obtain ⟨vs, rfl, h1⟩ := h
    exact ⟨vs, rfl, h1.on e a⟩
  | ins C ns ds =>
    obtain ⟨dx, vs, rfl, h0, h1⟩ := h
    exact ⟨dx, vs, rfl, h0, h1.mono e⟩
theorem UVs.len : ∀ {us : List U} {vs : List V}, UVs K G α m us vs → vs.length = us.length
  | [], _, h => by rw [h]; rfl
  | u :: us, _, ⟨v, r, e0, h1, h2⟩ => by rw [e0, List.length_cons, List.length_cons, h2.len]
theorem uvs_dats : ∀ {ds : List D} {vs : List V}, UVs K G α m (ds.map U.dat) vs → Dats K G ds vs
  | [], _, h => by rw [h]; exact .nil
  | d :: ds, _, ⟨v, r, e0, h1, h2⟩ => by rw [e0]; exact .cons h1 (uvs_dats h2)
theorem dats_uvs : ∀ {ds : List D} {vs : List V}, Dats K G ds vs → UVs K G α m (ds.map U.dat) vs
  | [], vs, h => (show vs = [] from of_dats0 h)
  | d :: ds, _, h => by
    obtain ⟨v, r, e0, h1, h2⟩ := of_dats h
    exact ⟨v, r, e0, h1, dats_uvs h2⟩
theorem same_upd {p : Addr} {o : HO} (h : H p = none) : Same H (upd H p o) := fun b x e => by
  rw [upd_ne (ne_of_none e h)]
  exact e
theorem same_into {p : Addr} {o : HO} (s : Same G H) (h : H p = none) : Same G (upd H p o) := s.trans (same_upd h)
theorem same_both {p : Addr} {o : HO} (s : Same G H) : Same (upd G p o) (upd H p o) := fun b x e => by
  unfold upd at e ⊢
  split at e
  · rename_i hb
    rw [if_pos hb]
    exact e
  · rename_i hb
    rw [if_neg hb]
    exact s _ _ e
theorem same_keep {p : Addr} {o : HO} (s : Same G H) (n : G p = none) : Same G (upd H p o) := fun b x e => by
  have hb : b ≠ p := ne_of_none e n
  rw [upd_ne hb]
  exact s _ _ e
theorem Same.none (s : Same G H) {p : Addr} (h : H p = none) : G p = none := s.free h
def setG (S : DSt) (i : Nat) (u : U) : DSt := ⟨S.g.set i (some u), S.m⟩
def setM (S : DSt) (n : Nat) (mo : MO) : DSt := ⟨S.g, S.m.set n (some mo)⟩
/-- a new object that is data from now on -/
theorem Rl.dat (R : Rl K F G α S σ H) {p : Addr} {o : HO} (h : H p = none) (no : ∀ n, Live S.m n → α n ≠ p) : GX F G (upd G p o) ∧ Rl K F (upd G p o) α S σ (upd H p o) := by
  have gn : G p = none := Same.none R.fG h
  have fn : F p = none := Same.none R.fF h
  have sg : Same G (upd G p o) := same_upd gn
  refine ⟨⟨sg, fun a x hF hG h2 => ?_⟩, same_into R.fF h, same_both R.fG, R.ln, fun i u hu => ?_, fun n mo hm => ?_, R.inj⟩
  · have ha : a ≠ p := fun z => hF (by rw [z]; exact fn)
    rw [upd_ne ha, hG] at h2
    cases h2
  · obtain ⟨v, e, uv⟩ := R.sl i u hu
    exact ⟨v, e, uv.on sg fun n l => ⟨rfl, l⟩⟩
  · obtain ⟨h1, h2, o', h3, h4⟩ := R.mu n mo hm
    have np : α n ≠ p := no n ⟨mo, hm⟩
    exact ⟨h1, by rw [upd_ne np]; exact h2, o', by rw [upd_ne np]; exact h3, h4.on sg fun n l => ⟨rfl, l⟩⟩
theorem Rl.apart (R : Rl K F G α S σ H) {p : Addr} (h : H p = none) : ∀ n, Live S.m n → α n ≠ p := fun n ⟨mo, hm⟩ e => by
  obtain ⟨_, _, o, h3, _⟩ := R.mu n mo hm
  rw [e, h] at h3
  cases h3
theorem live_set {n k : Nat} {mo : MO} (h : Live (m.set n (some mo)) k) (hk : k ≠ n) : Live m k := by
  obtain ⟨x, e⟩ := h
  rw [List.getElem?_set_ne (Ne.symm hk)] at e
  exact ⟨x, e⟩
theorem live_set' {n k : Nat} {mo : MO} (h : Live m k) : Live (m.set n (some mo)) k := by
  obtain ⟨x, e⟩ := h
  by_cases hk : n = k
  · subst hk
    have := (List.getElem?_eq_some_iff.mp e).1
    exact ⟨mo, List.getElem?_set_self this⟩
  · exact ⟨x, by rw [List.getElem?_set_ne hk]; exact e⟩
/-- a new object of one's own, under the number n -/
theorem Rl.own (R : Rl K F G α S σ H) {p : Addr} {o : HO} {n : Nat} {mo : MO} (h : H p = none) (hn0 : n ≠ 0) (hn : S.m[n]? = some none) (hm : MV K G α S.m mo o) :
    AX S (setM S n mo) α (fun k => if k = n then p else α k) ∧ Rl K F G (fun k => if k = n then p else α k) (setM S n mo) σ (upd H p o) ∧ UV K G (fun k => if k = n then p else α k) (setM S n mo).m (.own n) (.ref p) := by
  have gn : G p = none := Same.none R.fG h
  have fn : F p = none := Same.none R.fF h
  have nl : ¬ Live S.m n := fun ⟨x, e⟩ => by rw [hn] at e; cases e
  have ax : ∀ k, Live S.m k → (if k = n then p else α k) = α k ∧ Live (S.m.set n (some mo)) k := fun k l => by
    have hk : k ≠ n := fun z => nl (by rw [← z]; exact l)
    exact ⟨if_neg hk, live_set' l⟩
  have ap := R.apart h
  have lt : n < S.m.length := (List.getElem?_eq_some_iff.mp hn).1
  refine ⟨⟨if_neg (Ne.symm hn0), ax⟩, ⟨same_into R.fF h, same_into R.fG h, R.ln, fun i u hu => ?_, fun k mo' hk => ?_, fun k j lk lj e => ?_⟩, ⟨by show V.ref p = V.ref (if n = n then p else α n); rw [if_pos rfl], ⟨mo, List.getElem?_set_self lt⟩⟩⟩
  · obtain ⟨v, e, uv⟩ := R.sl i u hu
    exact ⟨v, e, uv.on (Same.refl G) ax⟩
  · by_cases e : k = n
    · subst e
      have e2 : mo' = mo := by
        have q : (S.m.set k (some mo))[k]? = some (some mo') := hk
        rw [List.getElem?_set_self lt] at q
        cases q
        rfl
      subst e2
      rw [if_pos rfl]
      exact ⟨fn, gn, o, upd_same, hm.on (Same.refl G) ax⟩
    · have q : S.m[k]? = some (some mo') := by
        have q : (S.m.set n (some mo))[k]? = some (some mo') := hk
        rw [List.getElem?_set_ne (Ne.symm e)] at q
        exact q
      obtain ⟨h1, h2, o', h3, h4⟩ := R.mu k mo' q
      rw [if_neg e]
      have np : α k ≠ p := ap k ⟨mo', q⟩
      exact ⟨h1, h2, o', by rw [upd_ne np]; exact h3, h4.on (Same.refl G) ax⟩
  · by_cases ek : k = n
    · by_cases ej : j = n
      · rw [ek, ej]
      · subst ek
        simp only [if_true, if_neg ej] at e
        exact absurd e.symm (ap j (live_set lj ej))
    · by_cases ej : j = n
      · subst ej
        simp only [if_true, if_neg ek] at e
        exact absurd e (ap k (live_set lk ek))
      · simp only [if_neg ek, if_neg ej] at e
        exact R.inj k j (live_set lk ek) (live_set lj ej) e
/-- an object of one's own is changed -/
theorem Rl.write (R : Rl K F G α S σ H) {o : HO} {n : Nat} {mo : MO} (hl : Live S.m n) (hm : MV K G α S.m mo o) : AX S (setM S n mo) α α ∧ Rl K F G α (setM S n mo) σ (upd H (α n) o) := by
  obtain ⟨mo0, h0⟩ := id hl
  obtain ⟨f0, g0, o0, ho0, _⟩ := R.mu n mo0 h0
  have lt : n < S.m.length := (List.getElem?_eq_some_iff.mp h0).1
  have ax : ∀ k, Live S.m k → α k = α k ∧ Live (S.m.set n (some mo)) k := fun k l => ⟨rfl, live_set' l⟩
  have back : ∀ k, Live (S.m.set n (some mo)) k → Live S.m k := fun k l => by
    by_cases e : k = n
    · rw [e]; exact hl
    · exact live_set l e
  refine ⟨⟨rfl, ax⟩, same_keep R.fF f0, same_keep R.fG g0, R.ln, fun i u hu => ?_, fun k mo' hk => ?_, fun k j lk lj e => R.inj k j (back k lk) (back j lj) e⟩
  · obtain ⟨v, e, uv⟩ := R.sl i u hu
    exact ⟨v, e, uv.on (Same.refl G) ax⟩
  · by_cases e : k = n
    · subst e
      have e2 : mo' = mo := by
        have q : (S.m.set k (some mo))[k]? = some (some mo') := hk
        rw [List.getElem?_set_self lt] at q
        cases q
        rfl
      subst e2
      exact ⟨f0, g0, o, upd_same, hm.on (Same.refl G) ax⟩
    · have q : S.m[k]? = some (some mo') := by
        have q : (S.m.set n (some mo))[k]? = some (some mo') := hk
        rw [List.getElem?_set_ne (Ne.symm e)] at q
        exact q
      obtain ⟨h1, h2, o', h3, h4⟩ := R.mu k mo' q
      have np : α k ≠ α n := fun z => e (R.inj k n ⟨mo', q⟩ hl z)
      exact ⟨h1, h2, o', by rw [upd_ne np]; exact h3, h4.on (Same.refl G) ax⟩
/-- the slots alone change -/
theorem Rl.slot (R : Rl K F G α S σ H) {i : Nat} {u : U} {v : V} (h : UV K G α S.m u v) : Rl K F G α (setG S i u) (σ.set i (some v)) H := by
  refine ⟨R.fF, R.fG, by rw [List.length_set]; show (S.g.set i (some u)).length = _; rw [List.length_set]; exact R.ln, fun j w hj => ?_, R.mu, R.inj⟩
  have hj : (S.g.set i (some u))[j]? = some (some w) := hj
  by_cases e : i = j
  · subst e
    have lt : i < S.g.length := by
      have := (List.getElem?_eq_some_iff.mp hj).1
      rwa [List.length_set] at this
    rw [List.getElem?_set_self lt] at hj
    cases hj
    exact ⟨v, by rw [List.getElem?_set_self (by rw [← R.ln]; exact lt)], h⟩
  · rw [List.getElem?_set_ne e] at hj
    rw [List.getElem?_set_ne e]
    exact R.sl j w hj
end
end DL
/-! DB: judgements over data: DE (expressions), DT (tests), DA (arguments), DG (targets), DS (statements). -/
namespace DL
open PySem PySem.Spec PyProof.Rows L2
def tD (K : PySem.W.Frag) (S : DSt) (u : U) (S' : DSt) : TE := fun σ H Q => ∃ F G α, Rl K F G α S σ H ∧ ∀ v G' α' H', GX F G G' → AX S S' α α' → Rl K F G' α' S' σ H' → UV K G' α' S'.m u v → Q v H'
def tDT (K : PySem.W.Frag) (S : DSt) (b : Bool) (S' : DSt) : TT := fun σ H Q => ∃ F G α, Rl K F G α S σ H ∧ ∀ G' α' H', GX F G G' → AX S S' α α' → Rl K F G' α' S' σ H' → Q b H'
def tDA (K : PySem.W.Frag) (S : DSt) (us : List U) (S' : DSt) : TA := fun σ H Q => ∃ F G α, Rl K F G α S σ H ∧ ∀ vs G' α' H', GX F G G' → AX S S' α α' → Rl K F G' α' S' σ H' → UVs K G' α' S'.m us vs → Q vs H'
inductive Out where
  | nx (S : DSt)
  | rt (u : U) (S : DSt)
  | bk (S : DSt)
  | ct (S : DSt)
def OutK (K : PySem.W.Frag) (F G : Hp) (α : Nat → Addr) (E : Ends) : Out → Prop
  | .nx S' => ∀ G' α' σ' H', GX F G G' → α' 0 = α 0 → Rl K F G' α' S' σ' H' → E.nx σ' H'
  | .bk S' => ∀ G' α' σ' H', GX F G G' → α' 0 = α 0 → Rl K F G' α' S' σ' H' → E.bk σ' H'
  | .ct S' => ∀ G' α' σ' H', GX F G G' → α' 0 = α 0 → Rl K F G' α' S' σ' H' → E.ct σ' H'
  | .rt u S' => ∀ v G' α' σ' H', GX F G G' → α' 0 = α 0 → Rl K F G' α' S' σ' H' → UV K G' α' S'.m u v → E.rt v H'
def tDS (K : PySem.W.Frag) (S : DSt) (out : Out) : TS := fun E σ H => ∃ F G α, Rl K F G α S σ H ∧ OutK K F G α E out
theorem OutK.on {K : PySem.W.Frag} {F G G1 : Hp} {α α1 : Nat → Addr} {E : Ends} {out : Out} (h : OutK K F G α E out) (g : GX F G G1) (e : α1 0 = α 0) : OutK K F G1 α1 E out := by
  cases out with
  | nx S' => exact fun G' α' σ' H' g' e' => h G' α' σ' H' (g.trans g') (e'.trans e)
  | bk S' => exact fun G' α' σ' H' g' e' => h G' α' σ' H' (g.trans g') (e'.trans e)
  | ct S' => exact fun G' α' σ' H' g' e' => h G' α' σ' H' (g.trans g') (e'.trans e)
  | rt u S' => exact fun v G' α' σ' H' g' e' => h v G' α' σ' H' (g.trans g') (e'.trans e)
abbrev DE (X : Cx) (e : Expr) (S : DSt) (u : U) (S' : DSt) : Prop := PE X e (tD X.K S u S')
abbrev DT (X : Cx) (e : Expr) (S : DSt) (b : Bool) (S' : DSt) : Prop := PT X e (tDT X.K S b S')
abbrev DW (X : Cx) (e : Expr) (S : DSt) (b : Bool) (S' : DSt) : Prop := PW X e (tDT X.K S b S')
abbrev DAr (X : Cx) (es : List Expr) (S : DSt) (us : List U) (S' : DSt) : Prop := PA X es (tDA X.K S us S')
abbrev DS (X : Cx) (st : Stmt) (S : DSt) (out : Out) : Prop := PS X st (tDS X.K S out)
abbrev DSs (X : Cx) (sts : List Stmt) (S : DSt) (out : Out) : Prop := PSs X sts (tDS X.K S out)
section
variable {X : Cx} {e a b c : Expr} {t t' : TE}
theorem PE.wk (h : PE X e t) (w : ∀ σ H Q, t' σ H Q → t σ H Q) : PE X e t' := ⟨fun pins s σ H Q I q => h.run pins s σ H Q I (w σ H Q q)⟩
theorem PT.wk {t t' : TT} (h : PT X e t) (w : ∀ σ H Q, t' σ H Q → t σ H Q) : PT X e t' := ⟨fun pins s σ H Q I q => h.run pins s σ H Q I (w σ H Q q)⟩
theorem PW.wk {t t' : TT} (h : PW X e t) (w : ∀ σ H Q, t' σ H Q → t σ H Q) : PW X e t' := ⟨fun wh pins s σ H Q I q => h.run wh pins s σ H Q I (w σ H Q q)⟩
theorem PA.wk {es : List Expr} {t t' : TA} (h : PA X es t) (w : ∀ σ H Q, t' σ H Q → t σ H Q) : PA X es t' := ⟨fun pos pins s σ H Q I q => h.run pos pins s σ H Q I (w σ H Q q)⟩
theorem PS.wk {st : Stmt} {t t' : TS} (h : PS X st t) (w : ∀ E σ H, t' E σ H → t E σ H) : PS X st t' := ⟨fun pins s σ H E I q => h.run pins s σ H E I (w E σ H q)⟩
theorem PSs.wk {st : List Stmt} {t t' : TS} (h : PSs X st t) (w : ∀ E σ H, t' E σ H → t E σ H) : PSs X st t' := ⟨fun pins s σ H E I q => h.run pins s σ H E I (w E σ H q)⟩
variable {S S1 S2 S3 S' : DSt} {u w z : U} {pos : Pos}
/-! ### names, constants -/
theorem de_var (i : Nat) {x : Str} {u : U} (h : S.g[i]? = some (some u)) (hN : X.N[i]? = some x := by rfl) (hv : Vis X.env.scope x := by first | exact Or.inl rfl | exact Or.inr (Or.inl rfl) | exact Or.inr (Or.inr rfl))
    (hd : (x == ("__debug__" : Str)) = false := by decide) (hcd : (x == ("__classdict__" : Str)) = false := by decide) : DE X (.Name x pos) S u S :=
  PE.wk (pe_var hN hv hd hcd) fun σ H Q ⟨F, G, α, R, k⟩ => by
    obtain ⟨v, e, uv⟩ := R.sl i u h
    exact ⟨v, e, k v G α H .refl .refl R uv⟩
theorem de_int {i : Int} {j : Nat} : DE X (.Constant (.int i) j pos) S (.dat (.int i)) S := PE.wk pe_int fun σ H Q ⟨F, G, α, R, k⟩ => k _ G α H .refl .refl R (Dat.int _)
theorem de_bl {b : Bool} {j : Nat} : DE X (.Constant (.bool b) j pos) S (.dat (.bl b)) S := PE.wk pe_bl fun σ H Q ⟨F, G, α, R, k⟩ => k _ G α H .refl .refl R (Dat.bl _)
theorem de_non {j : Nat} : DE X (.Constant .none j pos) S (.dat .non) S := PE.wk pe_non fun σ H Q ⟨F, G, α, R, k⟩ => k _ G α H .refl .refl R Dat.non
theorem de_str {x : Str} {j : Nat} : DE X (.Constant (.str x) j pos) S (.dat (.str x)) S := PE.wk pe_str fun σ H Q ⟨F, G, α, R, k⟩ => k _ G α H .refl .refl R (Dat.str _)
theorem de_globI {x : Str} {i : Int} {t : Tok} (hg : Gl X x) (hm : X.mg x = some (.int i t)) (hd : (x == ("__debug__" : Str)) = false := by decide) : DE X (.Name x pos) S (.dat (.int i)) S :=
  PE.wk (pe_glob hg hm (v := .int i) ⟨t, rfl⟩ hd) fun σ H Q ⟨F, G, α, R, k⟩ => k _ G α H .refl .refl R (Dat.int _)
/-! ### arguments -/
theorem da_nil : DAr X [] S [] S := PA.wk pa_nil fun σ H Q ⟨F, G, α, R, k⟩ => k [] G α H .refl .refl R rfl
theorem da_cons {es : List Expr} {us : List U} (ha : DE X e S u S1) (hr : DAr X es S1 us S2) (hs : starEach (e :: es) X.env = (false, eval e X.env) :: starEach es X.env := by rfl) : DAr X (e :: es) S (u :: us) S2 :=
  PA.wk (pa_cons ha hr hs) fun σ H Q ⟨F, G, α, R, k⟩ => ⟨F, G, α, R, fun v G1 α1 H1 g1 a1 R1 uv => ⟨F, G1, α1, R1, fun vs G2 α2 H2 g2 a2 R2 uvs =>
    k (v :: vs) G2 α2 H2 (g1.trans g2) (a1.trans a2) R2 ⟨v, vs, rfl, uv.on g2.1 a2.2, uvs⟩⟩⟩
/-! ### operators, by what they make of data -/
def OpD (K : PySem.W.Frag) (r : R2) (S : DSt) (u w z : U) (S' : DSt) : Prop := ∀ F G α σ H v y Q, Rl K F G α S σ H → UV K G α S.m u v → UV K G α S.m w y →
  (∀ v' G' α' H', GX F G G' → AX S S' α α' → Rl K F G' α' S' σ H' → UV K G' α' S'.m z v' → Q v' H') → r v y H Q
theorem two {σ : L2.St} {H : Hp} {Q : VK} {r : R2} (hr : OpD X.K r S2 u w z S3) (h : tD X.K S z S3 σ H Q) : tOp r (tD X.K S u S1) (tD X.K S1 w S2) σ H Q := by
  obtain ⟨F, G, α, R, k⟩ := h
  exact ⟨F, G, α, R, fun v G1 α1 H1 g1 a1 R1 uv => ⟨F, G1, α1, R1, fun y G2 α2 H2 g2 a2 R2 uy =>
    hr F G2 α2 σ H2 v y Q R2 (uv.on g2.1 a2.2) uy fun v' G3 α3 H3 g3 a3 R3 uz => k v' G3 α3 H3 (g1.trans (g2.trans g3)) (a1.trans (a2.trans a3)) R3 uz⟩⟩
theorem de_op {op : Operator} {r : R2} (ho : OpR X (binaryOp op) r) (ha : DE X a S u S1) (hb : DE X b S1 w S2) (hr : OpD X.K r S2 u w z S3) : DE X (.BinOp a op b pos) S z S3 :=
  PE.wk (pe_op ho ha hb) fun σ H Q h => two hr h
theorem de_cmp {op : CmpOp} {r : R2} (ho : OpR X (compareOp op) r) (ha : DE X a S u S1) (hb : DE X b S1 w S2) (hr : OpD X.K r S2 u w z S3) (hm : behindInMarks op b = false) : DE X (.Compare a [op] [b] pos) S z S3 :=
  PE.wk (pe_cmpR ho ha hb hm) fun σ H Q h => two hr h
theorem dt_cmp {op : CmpOp} {r : R2} {k : Bool} (ho : OpR X (compareOp op) r) (ha : DE X a S u S1) (hb : DE X b S1 w S2) (hr : OpD X.K r S2 u w (.dat (.bl k)) S3) (hm : behindInMarks op b = false) : DT X (.Compare a [op] [b] pos) S k S3 :=
  PT.wk (pt_cmpR ho ha hb hm) fun σ H Q ⟨F, G, α, R, q⟩ => two hr ⟨F, G, α, R, fun v' G' α' H' g a R' uz => ⟨k, of_bl uz, q G' α' H' g a R'⟩⟩
/-- a scalar comes, the heap stays -/
theorem opd_int {K : PySem.W.Frag} {i j : Int} {g : Int → Int → D} {gv : Int → Int → V} (h : ∀ G, Dat K G (g i j) (gv i j)) : OpD K (rI0 gv) S (.dat (.int i)) (.dat (.int j)) (.dat (g i j)) S := by
  intro F G α σ H v y Q R hu hw k
  exact ⟨i, j, of_int hu, of_int hw, k _ G α H .refl .refl R (h G)⟩
theorem opd_intC {K : PySem.W.Frag} {i j : Int} {C : Int → Int → Prop} {g : Int → Int → D} {gv : Int → Int → V} (hC : C i j) (h : ∀ G, Dat K G (g i j) (gv i j)) : OpD K (rI C gv) S (.dat (.int i)) (.dat (.int j)) (.dat (g i j)) S := by
  intro F G α σ H v y Q R hu hw k
  exact ⟨i, j, of_int hu, of_int hw, hC, k _ G α H .refl .refl R (h G)⟩
theorem de_add {i j : Int} (ha : DE X a S (.dat (.int i)) S1) (hb : DE X b S1 (.dat (.int j)) S2) : DE X (.BinOp a .Add b pos) S (.dat (.int (i + j))) S2 := de_op op_add ha hb (opd_int (g := fun i j => .int (i + j)) fun _ => (Dat.int _))
theorem de_sub {i j : Int} (ha : DE X a S (.dat (.int i)) S1) (hb : DE X b S1 (.dat (.int j)) S2) : DE X (.BinOp a .Sub b pos) S (.dat (.int (i - j))) S2 := de_op op_sub ha hb (opd_int (g := fun i j => .int (i - j)) fun _ => (Dat.int _))
theorem de_mul {i j : Int} (ha : DE X a S (.dat (.int i)) S1) (hb : DE X b S1 (.dat (.int j)) S2) (h : CMul i j) : DE X (.BinOp a .Mult b pos) S (.dat (.int (i * j))) S2 := de_op op_mul ha hb (opd_intC (g := fun i j => .int (i * j)) h fun _ => (Dat.int _))
theorem de_fdiv {i j : Int} (ha : DE X a S (.dat (.int i)) S1) (hb : DE X b S1 (.dat (.int j)) S2) (h : CDiv i j) : DE X (.BinOp a .FloorDiv b pos) S (.dat (.int (i / j))) S2 := de_op op_fdiv ha hb (opd_intC (g := fun i j => .int (i / j)) h fun _ => (Dat.int _))
theorem de_mod {i j : Int} (ha : DE X a S (.dat (.int i)) S1) (hb : DE X b S1 (.dat (.int j)) S2) (h : 0 < j) : DE X (.BinOp a .Mod b pos) S (.dat (.int (i % j))) S2 := de_op op_mod ha hb (opd_intC (g := fun i j => .int (i % j)) h fun _ => (Dat.int _))
theorem de_pow {i j : Int} (ha : DE X a S (.dat (.int i)) S1) (hb : DE X b S1 (.dat (.int j)) S2) (h : CPow i j) : DE X (.BinOp a .Pow b pos) S (.dat (.int (i ^ j.toNat))) S2 := de_op op_pow ha hb (opd_intC (g := fun i j => .int (i ^ j.toNat)) h fun _ => (Dat.int _))
theorem opd_lt {K : PySem.W.Frag} {i j : Int} : OpD K (rI0 fun i j => .bl (decide (i < j))) S (.dat (.int i)) (.dat (.int j)) (.dat (.bl (decide (i < j)))) S := opd_int (g := fun i j => .bl (decide (i < j))) fun _ => (Dat.bl _)
theorem opd_le {K : PySem.W.Frag} {i j : Int} : OpD K (rI0 fun i j => .bl (decide (i ≤ j))) S (.dat (.int i)) (.dat (.int j)) (.dat (.bl (decide (i ≤ j)))) S := opd_int (g := fun i j => .bl (decide (i ≤ j))) fun _ => (Dat.bl _)
theorem opd_gt {K : PySem.W.Frag} {i j : Int} : OpD K (rI0 fun i j => .bl (decide (j < i))) S (.dat (.int i)) (.dat (.int j)) (.dat (.bl (decide (j < i)))) S := opd_int (g := fun i j => .bl (decide (j < i))) fun _ => (Dat.bl _)
theorem opd_ge {K : PySem.W.Frag} {i j : Int} : OpD K (rI0 fun i j => .bl (decide (j ≤ i))) S (.dat (.int i)) (.dat (.int j)) (.dat (.bl (decide (j ≤ i)))) S := opd_int (g := fun i j => .bl (decide (j ≤ i))) fun _ => (Dat.bl _)
theorem opd_eqI {K : PySem.W.Frag} {i j : Int} : OpD K rEq S (.dat (.int i)) (.dat (.int j)) (.dat (.bl (decide (i = j)))) S := by
  intro F G α σ H v y Q R hu hw k
  rw [of_int hu, of_int hw]
  refine ⟨rfl, k _ G α H .refl .refl R ?_⟩
  show Dat K G _ _
  rw [dec_int, Bool.beq_eq_decide_eq]
  exact (Dat.bl _)
theorem opd_neI {K : PySem.W.Frag} {i j : Int} : OpD K rNe S (.dat (.int i)) (.dat (.int j)) (.dat (.bl (!decide (i = j)))) S := by
  intro F G α σ H v y Q R hu hw k
  rw [of_int hu, of_int hw]
  refine ⟨rfl, k _ G α H .refl .refl R ?_⟩
  show Dat K G _ _
  rw [dec_int, Bool.beq_eq_decide_eq]
  exact (Dat.bl _)
theorem opd_eqS {K : PySem.W.Frag} {i j : Str} : OpD K rEq S (.dat (.str i)) (.dat (.str j)) (.dat (.bl (decide (i = j)))) S := by
  intro F G α σ H v y Q R hu hw k
  rw [of_str hu, of_str hw]
  refine ⟨rfl, k _ G α H .refl .refl R ?_⟩
  show Dat K G _ _
  rw [dec_str, Bool.beq_eq_decide_eq]
  exact (Dat.bl _)
theorem opd_neS {K : PySem.W.Frag} {i j : Str} : OpD K rNe S (.dat (.str i)) (.dat (.str j)) (.dat (.bl (!decide (i = j)))) S := by
  intro F G α σ H v y Q R hu hw k
  rw [of_str hu, of_str hw]
  refine ⟨rfl, k _ G α H .refl .refl R ?_⟩
  show Dat K G _ _
  rw [dec_str, Bool.beq_eq_decide_eq]
  exact (Dat.bl _)
theorem opd_eqB {K : PySem.W.Frag} {i j : Bool} : OpD K rEq S (.dat (.bl i)) (.dat (.bl j)) (.dat (.bl (decide (i = j)))) S := by
  intro F G α σ H v y Q R hu hw k
  rw [of_bl hu, of_bl hw]
  refine ⟨rfl, k _ G α H .refl .refl R ?_⟩
  show Dat K G _ _
  rw [dec_bl, Bool.beq_eq_decide_eq]
  exact (Dat.bl _)
theorem opd_neB {K : PySem.W.Frag} {i j : Bool} : OpD K rNe S (.dat (.bl i)) (.dat (.bl j)) (.dat (.bl (!decide (i = j)))) S := by
  intro F G α σ H v y Q R hu hw k
  rw [of_bl hu, of_bl hw]
  refine ⟨rfl, k _ G α H .refl .refl R ?_⟩
  show Dat K G _ _
  rw [dec_bl, Bool.beq_eq_decide_eq]
  exact (Dat.bl _)
/-- is None, is not None -/
def isNon : U → Bool
  | .dat .non => true
  | _ => false
theorem non_iff {K : PySem.W.Frag} {G : Hp} {α : Nat → Addr} {m : List (Option MO)} {u : U} {v : V} (h : UV K G α m u v) : decide (v = .non) = isNon u := by
  cases u with
  | own n => rw [h.1]; rfl
  | dat d =>
    have h : Dat K G d v := h
    cases d with
    | non => rw [of_non h]; rfl
    | bl b => rw [of_bl h]; rfl
    | int i => rw [of_int h]; rfl
    | str x => rw [of_str h]; rfl
    | lst ds => obtain ⟨a, vs, rfl, _⟩ := of_lst h; rfl
    | tup ds => obtain ⟨a, vs, rfl, _⟩ := of_tup h; rfl
    | dic t ks ds => obtain ⟨a, vs, rfl, _⟩ := of_dic h; rfl
    | ins C ns ds => obtain ⟨a, dx, vs, rfl, _⟩ := of_ins h; rfl
    | rol ds => obtain ⟨a, vs, rfl, _⟩ := of_rol h; rfl
    | ty n => rw [of_ty h]; rfl
    | lkd ks ds => obtain ⟨a, o, kvs, rfl, _⟩ := of_lkd h; rfl
    | exc a e ns ds => obtain ⟨vs, rfl, _⟩ := of_exc h; rfl
theorem de_isN {j : Nat} {pos' : Pos} (ha : DE X a S u S1) : DE X (.Compare a [.Is] [.Constant .none j pos'] pos) S (.dat (.bl (isNon u))) S1 :=
  PE.wk (pe_cmp (pc_isN ha) rfl) fun σ H Q ⟨F, G, α, R, k⟩ => ⟨F, G, α, R, fun v G1 α1 H1 g a R1 uv => k _ G1 α1 H1 g a R1 (by rw [non_iff uv]; exact (Dat.bl _))⟩
theorem de_notN {j : Nat} {pos' : Pos} (ha : DE X a S u S1) : DE X (.Compare a [.IsNot] [.Constant .none j pos'] pos) S (.dat (.bl (!isNon u))) S1 :=
  PE.wk (pe_cmp (pc_notN ha) rfl) fun σ H Q ⟨F, G, α, R, k⟩ => ⟨F, G, α, R, fun v G1 α1 H1 g a R1 uv => k _ G1 α1 H1 g a R1 (by rw [non_iff uv]; exact (Dat.bl _))⟩
/-! ### tests -/
theorem dt_val {k : Bool} (h : DE X e S (.dat (.bl k)) S1) (he : ∀ whole, isTrue e X.env whole = (do let v ← whole; standAt e.pos; holding [v] (truthy v)) := by intro _; rfl) : DT X e S k S1 :=
  PT.wk (pt_val h he) fun σ H Q ⟨F, G, α, R, q⟩ => ⟨F, G, α, R, fun v G1 α1 H1 g a R1 uv => ⟨k, of_bl uv, q G1 α1 H1 g a R1⟩⟩
theorem dw_and1 {k : Bool} (h : DT X a S k S1) : DW X (.BoolOp .And [a] pos) S k S1 := pw_and1 h
theorem dw_or1 {k : Bool} (h : DT X a S k S1) : DW X (.BoolOp .Or [a] pos) S k S1 := pw_or1 h
theorem dw_andT {k : Bool} {rest : List Expr} (h : DT X a S true S1) (h2 : DW X (.BoolOp .And (b :: rest) pos) S1 k S2) : DW X (.BoolOp .And (a :: b :: rest) pos) S k S2 :=
  PW.wk (pw_and h h2) fun σ H Q ⟨F, G, α, R, q⟩ => ⟨F, G, α, R, fun G1 α1 H1 g1 a1 R1 => iteT ⟨F, G1, α1, R1, fun G2 α2 H2 g2 a2 R2 => q G2 α2 H2 (g1.trans g2) (a1.trans a2) R2⟩⟩
/-- the chain ends at a false one; the rest is not asked -/
theorem pw_any {whole : Expr} : PW X whole (fun _ _ _ => False) := ⟨fun _ _ _ _ _ _ _ h => h.elim⟩
theorem dw_andF {rest : List Expr} (h : DT X a S false S1) : DW X (.BoolOp .And (a :: b :: rest) pos) S false S1 :=
  PW.wk (pw_and h pw_any) fun σ H Q ⟨F, G, α, R, q⟩ => ⟨F, G, α, R, fun G1 α1 H1 g1 a1 R1 => iteF (q G1 α1 H1 g1 a1 R1)⟩
theorem dw_orF {k : Bool} {rest : List Expr} (h : DT X a S false S1) (h2 : DW X (.BoolOp .Or (b :: rest) pos) S1 k S2) : DW X (.BoolOp .Or (a :: b :: rest) pos) S k S2 :=
  PW.wk (pw_or h h2) fun σ H Q ⟨F, G, α, R, q⟩ => ⟨F, G, α, R, fun G1 α1 H1 g1 a1 R1 => iteF ⟨F, G1, α1, R1, fun G2 α2 H2 g2 a2 R2 => q G2 α2 H2 (g1.trans g2) (a1.trans a2) R2⟩⟩
theorem dw_orT {rest : List Expr} (h : DT X a S true S1) : DW X (.BoolOp .Or (a :: b :: rest) pos) S true S1 :=
  PW.wk (pw_or h pw_any) fun σ H Q ⟨F, G, α, R, q⟩ => ⟨F, G, α, R, fun G1 α1 H1 g1 a1 R1 => iteT (q G1 α1 H1 g1 a1 R1)⟩
theorem DW.dt {k : Bool} (h : DW X e S k S1) : DT X e S k S1 := PW.pt h
theorem dt_not {k : Bool} (h : DT X a S k S1) : DT X (.UnaryOp .Not a pos) S (!k) S1 := PT.wk (pt_not h) fun σ H Q ⟨F, G, α, R, q⟩ => ⟨F, G, α, R, fun G1 α1 H1 g1 a1 R1 => q G1 α1 H1 g1 a1 R1⟩
/-- as values: bools -/
theorem de_one {op : BoolOp} (h : DE X a S u S1) : DE X (.BoolOp op [a] pos) S u S1 := pe_one h
theorem pe_any {whole : Expr} : PE X whole (fun _ _ _ => False) := ⟨fun _ _ _ _ _ _ h => h.elim⟩
theorem de_andT {rest : List Expr} (h : DE X a S (.dat (.bl true)) S1) (h2 : DE X (.BoolOp .And (b :: rest) pos) S1 u S2) : DE X (.BoolOp .And (a :: b :: rest) pos) S u S2 :=
  PE.wk (pe_and h h2) fun σ H Q ⟨F, G, α, R, q⟩ => ⟨F, G, α, R, fun v G1 α1 H1 g1 a1 R1 uv => ⟨true, of_bl uv, iteT ⟨F, G1, α1, R1, fun v G2 α2 H2 g2 a2 R2 => q v G2 α2 H2 (g1.trans g2) (a1.trans a2) R2⟩⟩⟩
theorem de_andF {rest : List Expr} (h : DE X a S (.dat (.bl false)) S1) : DE X (.BoolOp .And (a :: b :: rest) pos) S (.dat (.bl false)) S1 :=
  PE.wk (pe_and h pe_any) fun σ H Q ⟨F, G, α, R, q⟩ => ⟨F, G, α, R, fun v G1 α1 H1 g1 a1 R1 uv => ⟨false, of_bl uv, iteF (q _ G1 α1 H1 g1 a1 R1 (Dat.bl _))⟩⟩
theorem de_orF {rest : List Expr} (h : DE X a S (.dat (.bl false)) S1) (h2 : DE X (.BoolOp .Or (b :: rest) pos) S1 u S2) : DE X (.BoolOp .Or (a :: b :: rest) pos) S u S2 :=
  PE.wk (pe_or h h2) fun σ H Q ⟨F, G, α, R, q⟩ => ⟨F, G, α, R, fun v G1 α1 H1 g1 a1 R1 uv => ⟨false, of_bl uv, iteF ⟨F, G1, α1, R1, fun v G2 α2 H2 g2 a2 R2 => q v G2 α2 H2 (g1.trans g2) (a1.trans a2) R2⟩⟩⟩
theorem de_orT {rest : List Expr} (h : DE X a S (.dat (.bl true)) S1) : DE X (.BoolOp .Or (a :: b :: rest) pos) S (.dat (.bl true)) S1 :=
  PE.wk (pe_or h pe_any) fun σ H Q ⟨F, G, α, R, q⟩ => ⟨F, G, α, R, fun v G1 α1 H1 g1 a1 R1 uv => ⟨true, of_bl uv, iteT (q _ G1 α1 H1 g1 a1 R1 (Dat.bl _))⟩⟩
theorem de_not {k : Bool} (h : DE X a S (.dat (.bl k)) S1) : DE X (.UnaryOp .Not a pos) S (.dat (.bl (!k))) S1 :=
  PE.wk (pe_not h) fun σ H Q ⟨F, G, α, R, q⟩ => ⟨F, G, α, R, fun v G1 α1 H1 g1 a1 R1 uv => ⟨k, of_bl uv, q _ G1 α1 H1 g1 a1 R1 (Dat.bl _)⟩⟩
theorem de_ifT (hc : DT X c S true S1) (ha : DE X a S1 u S2) : DE X (.IfExp c a b pos) S u S2 :=
  PE.wk (pe_ifExp hc ha pe_any) fun σ H Q ⟨F, G, α, R, q⟩ => ⟨F, G, α, R, fun G1 α1 H1 g1 a1 R1 => iteT ⟨F, G1, α1, R1, fun v G2 α2 H2 g2 a2 R2 => q v G2 α2 H2 (g1.trans g2) (a1.trans a2) R2⟩⟩
theorem de_ifF (hc : DT X c S false S1) (hb : DE X b S1 u S2) : DE X (.IfExp c a b pos) S u S2 :=
  PE.wk (pe_ifExp hc pe_any hb) fun σ H Q ⟨F, G, α, R, q⟩ => ⟨F, G, α, R, fun G1 α1 H1 g1 a1 R1 => iteF ⟨F, G1, α1, R1, fun v G2 α2 H2 g2 a2 R2 => q v G2 α2 H2 (g1.trans g2) (a1.trans a2) R2⟩⟩
/-! ### built-ins, by what they make of data -/
def CaD (K : PySem.W.Frag) (r : List V → Hp → VK → Prop) (S : DSt) (us : List U) (z : U) (S' : DSt) : Prop := ∀ F G α σ H vs Q, Rl K F G α S σ H → UVs K G α S.m us vs →
  (∀ v' G' α' H', GX F G G' → AX S S' α α' → Rl K F G' α' S' σ H' → UV K G' α' S'.m z v' → Q v' H') → r vs H Q
theorem cad_of {σ : L2.St} {H : Hp} {Q : VK} {us : List U} {r : List V → Hp → VK → Prop} (hr : CaD X.K r S1 us z S2) (h : tD X.K S z S2 σ H Q) : tCB r (tDA X.K S us S1) σ H Q := by
  obtain ⟨F, G, α, R, k⟩ := h
  exact ⟨F, G, α, R, fun vs G1 α1 H1 g1 a1 R1 uv => hr F G1 α1 σ H1 vs Q R1 uv fun v' G3 α3 H3 g3 a3 R3 uz => k v' G3 α3 H3 (g1.trans g3) (a1.trans a3) R3 uz⟩
theorem de_callB {x : Str} {es : List Expr} {us : List U} {id : String} {p : Pos} {r : List V → Hp → VK → Prop} (hc : CallR X (.builtin id) r) (hm : X.mg x = none) (hv : bootBuiltins x = some (.builtin id)) (ha : DAr X (e :: es) S us S1) (hr : CaD X.K r S1 us z S2)
    (hg : Gl X x := by rfl) (hn : x ≠ "__name__" := by decide) (hdb : (x == ("__debug__" : Str)) = false := by decide)
    (he : starEach (e :: es) X.env = (false, eval e X.env) :: starEach es X.env := by rfl) (hpl : (backTo pos (starEach es X.env)).any (·.1) = false := by rfl) : DE X (.Call (.Name x p) (e :: es) [] pos) S z S2 :=
  PE.wk (pe_callB hc hg hm hv ha hn hdb he hpl) fun σ H Q h => cad_of hr h
theorem de_callTy {x : Str} {es : List Expr} {us : List U} {T : String} {p : Pos} {r : List V → Hp → VK → Prop} (hc : CallR X (.type T) r) (hm : X.mg x = none) (hv : bootBuiltins x = some (.type T)) (ha : DAr X (e :: es) S us S1) (hr : CaD X.K r S1 us z S2)
    (hg : Gl X x := by rfl) (hn : x ≠ "__name__" := by decide) (hdb : (x == ("__debug__" : Str)) = false := by decide)
    (he : starEach (e :: es) X.env = (false, eval e X.env) :: starEach es X.env := by rfl) (hpl : (backTo pos (starEach es X.env)).any (·.1) = false := by rfl) : DE X (.Call (.Name x p) (e :: es) [] pos) S z S2 :=
  PE.wk (pe_callTy hc hg hm hv ha hn hdb he hpl) fun σ H Q h => cad_of hr h
end
/-! ### statements -/
section
variable {X : Cx} {e a b c : Expr} {S S1 S2 S' : DSt} {u : U} {out : Out} {pos : Pos} {st : Stmt} {sts : List Stmt}
theorem dss_nil : DSs X [] S (.nx S) := PSs.wk pss_nil fun E σ H ⟨F, G, α, R, k⟩ => k G α σ H .refl rfl R
theorem dss_cons (h1 : DS X st S (.nx S1)) (h2 : DSs X sts S1 out) : DSs X (st :: sts) S out :=
  PSs.wk (pss_cons h1 h2) fun E σ H ⟨F, G, α, R, k⟩ => ⟨F, G, α, R, fun G1 α1 σ1 H1 g e R1 => ⟨F, G1, α1, R1, k.on g e⟩⟩
def isNx : Out → Bool
  | .nx _ => true
  | _ => false
/-- a statement that leaves the block -/
theorem dss_out (h1 : DS X st S out) (ho : isNx out = false) : DSs X (st :: sts) S out :=
  PSs.wk (pss_cons h1 pss_never) fun E σ H ⟨F, G, α, R, k⟩ => ⟨F, G, α, R, by
    cases out with
    | nx _ => cases ho
    | bk _ => exact k
    | ct _ => exact k
    | rt _ _ => exact k⟩
theorem dss_one (h1 : DS X st S out) : DSs X [st] S out := PSs.wk (pss_one h1) fun E σ H h => h
theorem ds_pass : DS X (.Pass pos) S (.nx S) := PS.wk ps_pass fun E σ H ⟨F, G, α, R, k⟩ => k G α σ H .refl rfl R
theorem ds_break : DS X (.Break pos) S (.bk S) := PS.wk ps_break fun E σ H ⟨F, G, α, R, k⟩ => k G α σ H .refl rfl R
theorem ds_continue : DS X (.Continue pos) S (.ct S) := PS.wk ps_continue fun E σ H ⟨F, G, α, R, k⟩ => k G α σ H .refl rfl R
theorem ds_expr (h : DE X e S u S1) (hs : swapsWith e none pos.line X.env = pure false := by rfl) : DS X (.Expr e pos) S (.nx S1) :=
  PS.wk (ps_expr h hs) fun E σ H ⟨F, G, α, R, k⟩ => ⟨F, G, α, R, fun v G1 α1 H1 g a R1 uv => k G1 α1 σ H1 g a.1 R1⟩
theorem ds_ret (h : DE X e S u S1) : DS X (.Return (some e) pos) S (.rt u S1) :=
  PS.wk (ps_ret h) fun E σ H ⟨F, G, α, R, k⟩ => ⟨F, G, α, R, fun v G1 α1 H1 g a R1 uv => k v G1 α1 σ H1 g a.1 R1 uv⟩
theorem ds_retN : DS X (.Return none pos) S (.rt (.dat .non) S) := PS.wk ps_retN fun E σ H ⟨F, G, α, R, k⟩ => k _ G α σ H .refl rfl R Dat.non
theorem ds_set {i : Nat} {x : Str} {pos' : Pos} (h : DE X e S u S1) (hN : X.N.Nodup) (hi : X.N[i]? = some x := by rfl) (hx : Loc X.env.scope x := by first | exact Or.inl rfl | exact Or.inr rfl)
    (hs : swapsWith e (some (.Name x pos')) pos.line X.env = pure false := by rfl) (hf : X.fn x = true ∨ X.env.scope.names.lookup x = some .local := by first | exact .inl rfl | exact .inr rfl) : DS X (.Assign [.Name x pos'] e pos) S (.nx (setG S1 i u)) :=
  PS.wk (ps_set hN hi hx h hs hf) fun E σ H ⟨F, G, α, R, k⟩ => ⟨F, G, α, R, fun v G1 α1 H1 g a R1 uv => k G1 α1 _ H1 g a.1 (R1.slot uv)⟩
theorem ds_ifT (hc : DT X c S true S1) (h : DSs X sts S1 out) {els : List Stmt} : DS X (.If c sts els pos) S out :=
  PS.wk (ps_if hc h pss_never) fun E σ H ⟨F, G, α, R, k⟩ => ⟨F, G, α, R, fun G1 α1 H1 g a R1 => iteT ⟨F, G1, α1, R1, k.on g a.1⟩⟩
theorem ds_ifF (hc : DT X c S false S1) {els : List Stmt} (h : DSs X els S1 out) : DS X (.If c sts els pos) S out :=
  PS.wk (ps_if hc pss_never h) fun E σ H ⟨F, G, α, R, k⟩ => ⟨F, G, α, R, fun G1 α1 H1 g a R1 => iteF ⟨F, G1, α1, R1, k.on g a.1⟩⟩
/-- the state is known to hold less -/
def Fz (K : PySem.W.Frag) (S S' : DSt) : Prop := ∀ F G α σ H, Rl K F G α S σ H → ∃ G' α', GX F G G' ∧ α' 0 = α 0 ∧ Rl K F G' α' S' σ H
theorem dss_fz (f : Fz X.K S S1) (h : DSs X sts S1 out) : DSs X sts S out :=
  PSs.wk h fun E σ H ⟨F, G, α, R, k⟩ => by
    obtain ⟨G1, α1, g, e, R1⟩ := f F G α σ H R
    exact ⟨F, G1, α1, R1, k.on g e⟩
theorem ds_fz (f : Fz X.K S S1) (h : DS X st S1 out) : DS X st S out :=
  PS.wk h fun E σ H ⟨F, G, α, R, k⟩ => by
    obtain ⟨G1, α1, g, e, R1⟩ := f F G α σ H R
    exact ⟨F, G1, α1, R1, k.on g e⟩
theorem ds_then (h : DS X st S (.nx S1)) (f : Fz X.K S1 S2) : DS X st S (.nx S2) :=
  PS.wk h fun E σ H ⟨F, G, α, R, k⟩ => ⟨F, G, α, R, fun G1 α1 σ1 H1 g e R1 => by
    obtain ⟨G2, α2, g2, e2, R2⟩ := f F G1 α1 σ1 H1 R1
    exact k G2 α2 σ1 H1 (g.trans g2) (e2.trans e) R2⟩
end
end DL
/-! DC: lists, tuples, texts, equality, isinstance over data. -/
namespace DL
open PySem PySem.Spec PyProof.Rows L2
/-! ### views -/
mutual
inductive View (m : List (Option MO)) : U → D → Prop
  | dat (d : D) : View m (.dat d) d
  | lst {n : Nat} {ds : List D} : m[n]? = some (some (.lst ds)) → View m (.own n) (.lst ds)
  | dic {n : Nat} {t : Bool} {ks ds : List D} : m[n]? = some (some (.dic t ks ds)) → View m (.own n) (.dic t ks ds)
  | lsu {n : Nat} {us : List U} {ds : List D} : m[n]? = some (some (.lsu us)) → Views m us ds → View m (.own n) (.lst ds)
inductive Views (m : List (Option MO)) : List U → List D → Prop
  | nil : Views m [] []
  | cons {u : U} {us : List U} {d : D} {ds : List D} : View m u d → Views m us ds → Views m (u :: us) (d :: ds)
end
section
variable {K : PySem.W.Frag} {F G : Hp} {α : Nat → Addr} {S : DSt} {σ : L2.St} {H : Hp}
theorem dicAt_dT {H : Hp} {a : Addr} {kvs : List (List Key × V)} (h : H a = some (.dT kvs)) : DicAt H a true (kvs.map fun p => tkD p.1) (kvs.map fun p => p.2) := ⟨kvs, .inl h, rfl, rfl⟩
theorem dicAt_dK {H : Hp} {a : Addr} {kvs : List (Key × V)} (h : H a = some (.dK kvs)) : DicAt H a false (kvs.map fun p => keyD p.1) (kvs.map fun p => p.2) := ⟨kvs, .inl h, rfl, rfl⟩
theorem mv_dic {m : List (Option MO)} {t : Bool} {ks ds : List D} {o : HO} {a : Addr} (h : MV K G α m (.dic t ks ds) o) (e : H a = some o) : ∃ vs, DicAt H a t ks vs ∧ Dats K G ds vs := by
  cases t with
  | true =>
    obtain ⟨kvs, rfl, rfl, h5⟩ := h
    exact ⟨_, dicAt_dT e, h5⟩
  | false =>
    obtain ⟨kvs, rfl, rfl, h5⟩ := h
    exact ⟨_, dicAt_dK e, h5⟩
mutual
theorem View.real (R : Rl K F G α S σ H) : ∀ {u : U} {d : D}, View S.m u d → ∀ {v : V}, UV K G α S.m u v → Dat K H d v
  | _, _, .dat d, v, h => Dat.mono R.fG d v h
  | _, _, .lst e, v, h => by
    obtain ⟨e1, _⟩ := h
    obtain ⟨_, _, o, h3, vs, rfl, h4⟩ := R.mu _ _ e
    rw [e1]
    exact .lst h3 (h4.mono R.fG)
  | _, _, .dic e, v, h => by
    obtain ⟨e1, _⟩ := h
    obtain ⟨_, _, o, h3, h4⟩ := R.mu _ _ e
    rw [e1]
    obtain ⟨vs, h5, h6⟩ := mv_dic h4 h3
    exact .dic h5 (h6.mono R.fG)
  | _, _, .lsu e q, v, h => by
    obtain ⟨e1, _⟩ := h
    obtain ⟨_, _, o, h3, vs, rfl, h4⟩ := R.mu _ _ e
    rw [e1]
    exact .lst h3 (Views.real R q h4)
theorem Views.real (R : Rl K F G α S σ H) : ∀ {us : List U} {ds : List D}, Views S.m us ds → ∀ {vs : List V}, UVs K G α S.m us vs → Dats K H ds vs
  | _, _, .nil, vs, h => by
    have e : vs = [] := h
    rw [e]
    exact .nil
  | _, _, .cons q t, vs, h => by
    obtain ⟨v, r, rfl, h1, h2⟩ := h
    exact .cons (View.real R q h1) (Views.real R t h2)
end
/-- a list, data or one's own -/
inductive LU (m : List (Option MO)) : U → List D → Prop
  | dat (ds : List D) : LU m (.dat (.lst ds)) ds
  | own {n : Nat} {ds : List D} : m[n]? = some (some (.lst ds)) → LU m (.own n) ds
theorem LU.real (R : Rl K F G α S σ H) {u : U} {ds : List D} (l : LU S.m u ds) {v : V} (h : UV K G α S.m u v) : ∃ a vs, v = .ref a ∧ H a = some (.lst vs) ∧ Dats K G ds vs := by
  cases l with
  | dat ds =>
    obtain ⟨a, vs, rfl, h1, h2⟩ := of_lst (show Dat K G (.lst ds) v from h)
    exact ⟨a, vs, rfl, R.fG _ _ h1, h2⟩
  | own e =>
    obtain ⟨e1, _⟩ := h
    obtain ⟨_, _, o, h3, vs, rfl, h4⟩ := R.mu _ _ e
    exact ⟨_, vs, e1, h3, h4⟩
theorem LU.view {m : List (Option MO)} {u : U} {ds : List D} (l : LU m u ds) : View m u (.lst ds) := by
  cases l with
  | dat ds => exact .dat _
  | own e => exact .lst e
/-- all are data -/
inductive AllD : List U → List D → Prop
  | nil : AllD [] []
  | cons {us : List U} {d : D} {ds : List D} : AllD us ds → AllD (.dat d :: us) (d :: ds)
theorem AllD.real {m : List (Option MO)} : ∀ {us : List U} {ds : List D}, AllD us ds → ∀ {vs : List V}, UVs K G α m us vs → Dats K G ds vs
  | _, _, .nil, vs, h => by
    have e : vs = [] := h
    rw [e]
    exact .nil
  | _, _, .cons t, vs, h => by
    obtain ⟨v, r, rfl, h1, h2⟩ := h
    exact .cons h1 (t.real h2)
theorem AllD.len : ∀ {us : List U} {ds : List D}, AllD us ds → us.length = ds.length
  | _, _, .nil => rfl
  | _, _, .cons t => by rw [List.length_cons, List.length_cons, t.len]
theorem allD_map : ∀ ds : List D, AllD (ds.map U.dat) ds
  | [] => .nil
  | _ :: ds => .cons (allD_map ds)
/-- what a new object becomes: data, or one's own under a free number -/
inductive Made (S : DSt) : MO → U → DSt → Prop
  | dl (ds : List D) : Made S (.lst ds) (.dat (.lst ds)) S
  | dd (t : Bool) (ks vs : List D) : Made S (.dic t ks vs) (.dat (.dic t ks vs)) S
  | ow (n : Nat) (mo : MO) : n ≠ 0 → S.m[n]? = some none → Made S mo (.own n) (setM S n mo)
theorem Rl.made (R : Rl K F G α S σ H) {p : Addr} {o : HO} {mo : MO} {z : U} {S' : DSt} (h : H p = none) (hm : MV K G α S.m mo o) (hz : Made S mo z S') :
    ∃ G' α', GX F G G' ∧ AX S S' α α' ∧ Rl K F G' α' S' σ (upd H p o) ∧ UV K G' α' S'.m z (.ref p) := by
  cases hz with
  | dl ds =>
    obtain ⟨vs, rfl, h1⟩ := hm
    obtain ⟨g, R'⟩ := R.dat (o := .lst vs) h (R.apart h)
    exact ⟨_, α, g, .refl, R', Dat.lst upd_same (h1.mono g.1)⟩
  | dd t ks ds =>
    obtain ⟨g, R'⟩ := R.dat (o := o) h (R.apart h)
    obtain ⟨vs, h5, h6⟩ := mv_dic (hm.on g.1 fun n l => ⟨rfl, l⟩) (upd_same (H := G) (a := p) (o := o))
    exact ⟨_, α, g, .refl, R', Dat.dic h5 h6⟩
  | ow n mo hn0 hn =>
    obtain ⟨a, R', uv⟩ := R.own h hn0 hn hm
    exact ⟨G, _, .refl, a, R', uv⟩
theorem Rl.madeT (R : Rl K F G α S σ H) {p : Addr} {ds : List D} {vs : List V} (h : H p = none) (hm : Dats K G ds vs) :
    ∃ G', GX F G G' ∧ Rl K F G' α S σ (upd H p (.tup vs)) ∧ Dat K G' (.tup ds) (.ref p) := by
  obtain ⟨g, R'⟩ := R.dat (o := .tup vs) h (R.apart h)
  exact ⟨_, g, R', Dat.tup upd_same (hm.mono g.1)⟩
end
section
variable {X : Cx} {e a b c : Expr} {S S1 S2 S3 S' : DSt} {u w z : U} {pos : Pos} {es : List Expr} {us : List U} {ds es' : List D}
/-! ### displays -/
theorem de_tup {x1 : Nat} (h : DAr X es S us S1) (hu : AllD us ds := by repeat constructor) (hz : ds.length ≤ 1000 := by exact Nat.le_of_ble_eq_true rfl) : DE X (.Tuple es x1 pos) S (.dat (.tup ds)) S1 :=
  PE.wk (pe_tup h) fun σ H Q ⟨F, G, α, R, k⟩ => ⟨F, G, α, R, fun vs G1 α1 H1 g1 a1 R1 uv => by
    have hd := hu.real uv
    refine ⟨by rw [hd.len, sizeLine_eq]; omega, fun p hp => ?_⟩
    obtain ⟨G2, g2, R2, d2⟩ := R1.madeT hp hd
    exact k _ G2 α1 _ (g1.trans g2) a1 R2 d2⟩
theorem de_lst (h : DAr X es S us S1) (hm : Made S1 (.lst ds) z S2) (hu : AllD us ds := by repeat constructor) (hz : ds.length ≤ 1000 := by exact Nat.le_of_ble_eq_true rfl) : DE X (.List es pos) S z S2 :=
  PE.wk (pe_lst h) fun σ H Q ⟨F, G, α, R, k⟩ => ⟨F, G, α, R, fun vs G1 α1 H1 g1 a1 R1 uv => by
    have hd := hu.real uv
    refine ⟨by rw [hd.len, sizeLine_eq]; omega, fun p hp => ?_⟩
    obtain ⟨G2, α2, g2, a2, R2, u2⟩ := R1.made hp (mo := .lst ds) ⟨vs, rfl, hd⟩ hm
    exact k _ G2 α2 _ (g1.trans g2) (a1.trans a2) R2 u2⟩
theorem de_lsu (h : DAr X es S us S1) (n : Nat) (hn0 : n ≠ 0) (hn : S1.m[n]? = some none) (hz : us.length ≤ 1000 := by exact Nat.le_of_ble_eq_true rfl) : DE X (.List es pos) S (.own n) (setM S1 n (.lsu us)) :=
  PE.wk (pe_lst h) fun σ H Q ⟨F, G, α, R, k⟩ => ⟨F, G, α, R, fun vs G1 α1 H1 g1 a1 R1 uv => by
    refine ⟨by rw [uv.len, sizeLine_eq]; omega, fun p hp => ?_⟩
    obtain ⟨a2, R2, u2⟩ := R1.own hp hn0 hn (mo := .lsu us) (o := .lst vs) ⟨vs, rfl, uv⟩
    exact k _ G1 _ _ g1 (a1.trans a2) R2 u2⟩
/-! ### subscripts -/
theorem dats_atI {K : PySem.W.Frag} {G : Hp} {ds : List D} {vs : List V} {i : Int} {d : D} (h : Dats K G ds vs) (e : atI ds i = some d) : ∃ v, atI vs i = some v ∧ Dat K G d v := by
  unfold atI at e ⊢
  rw [h.len]
  cases q : ixN ds.length i with
  | none => rw [q] at e; cases e
  | some j =>
    rw [q] at e
    obtain ⟨v, h1, h2⟩ := h.get (show ds[j]? = some d from e)
    exact ⟨v, h1, h2⟩
theorem opd_ixL {K : PySem.W.Frag} {i : Int} {d : D} (l : LU S.m u ds) (e : atI ds i = some d) : OpD K (rIx K) S u (.dat (.int i)) (.dat d) S := by
  intro F G α σ H v y Q R hu hw k
  obtain ⟨p, vs, rfl, h1, h2⟩ := l.real R hu
  obtain ⟨v', e', hv⟩ := dats_atI h2 e
  exact .inl ⟨p, vs, i, v', rfl, of_int hw, .of h1, e', k _ G α H .refl .refl R hv⟩
theorem opd_ixT {K : PySem.W.Frag} {i : Int} {d : D} (e : atI ds i = some d) : OpD K (rIx K) S (.dat (.tup ds)) (.dat (.int i)) (.dat d) S := by
  intro F G α σ H v y Q R hu hw k
  obtain ⟨p, vs, rfl, h1, h2⟩ := of_tup hu
  obtain ⟨v', e', hv⟩ := dats_atI h2 e
  exact .inr (.inl ⟨p, vs, i, v', rfl, of_int hw, .of (R.fG _ _ h1), e', k _ G α H .refl .refl R hv⟩)
theorem opd_ixR {K : PySem.W.Frag} {i : Int} {d : D} (e : atI ds i = some d) : OpD K (rIx K) S (.dat (.rol ds)) (.dat (.int i)) (.dat d) S := by
  intro F G α σ H v y Q R hu hw k
  obtain ⟨p, vs, rfl, h1, h2⟩ := of_rol hu
  obtain ⟨v', e', hv⟩ := dats_atI h2 e
  exact .inl ⟨p, vs, i, v', rfl, of_int hw, R.fG.seq h1, e', k _ G α H .refl .refl R hv⟩
theorem de_ix {i : Int} (ha : DE X a S u S1) (hb : DE X b S1 (.dat (.int i)) S2) (hr : OpD X.K (rIx X.K) S2 u (.dat (.int i)) z S2) (hs : PlainIx b := by exact fun _ _ => rfl) : DE X (.Subscript a b pos) S z S2 :=
  PE.wk (pe_ix ix_seq ha hb hs) fun σ H Q h => two hr h
theorem atI_nn {α : Type} {xs : List α} {i : Int} {v : α} (h0 : 0 ≤ i) (h : xs[i.toNat]? = some v) : atI xs i = some v := by
  have e : i = ((i.toNat : Nat) : Int) := by omega
  rw [e]
  exact atI_nat h
/-! ### slices -/
def cutA {β : Type} (xs : List β) (lo hi : Option Int) : List β := (xs.drop (HT.sIx xs.length 0 lo)).take (HT.sIx xs.length xs.length hi - HT.sIx xs.length 0 lo)
def tDO (K : PySem.W.Frag) (S : DSt) (l : Option Int) (S' : DSt) : TO := fun σ H Q => ∃ F G α, Rl K F G α S σ H ∧ ∀ G' α' H', GX F G G' → AX S S' α α' → Rl K F G' α' S' σ H' → Q l H'
abbrev DO (X : Cx) (lo : Option Expr) (S : DSt) (l : Option Int) (S' : DSt) : Prop := PO X lo (tDO X.K S l S')
theorem PO.wk {lo : Option Expr} {t t' : TO} (h : PO X lo t) (w : ∀ σ H Q, t' σ H Q → t σ H Q) : PO X lo t' := ⟨fun pins s σ H Q I q => h.run pins s σ H Q I (w σ H Q q)⟩
theorem do_none : DO X none S none S := PO.wk po_none fun σ H Q ⟨F, G, α, R, k⟩ => k G α H .refl .refl R
theorem do_some {i : Int} (h : DE X e S (.dat (.int i)) S1) : DO X (some e) S (some i) S1 := PO.wk (po_some h) fun σ H Q ⟨F, G, α, R, k⟩ => ⟨F, G, α, R, fun v G1 α1 H1 g1 a1 R1 uv => ⟨i, of_int uv, k G1 α1 H1 g1 a1 R1⟩⟩
theorem dats_cut {K : PySem.W.Frag} {G : Hp} {ds : List D} {vs : List V} (h : Dats K G ds vs) (lo hi : Option Int) : Dats K G (cutA ds lo hi) (cutV vs lo hi) := by
  unfold cutA cutV
  rw [h.len]
  exact (h.drop _).take _
theorem de_slL {lo hi : Option Expr} {l h : Option Int} {p2 : Pos} (ha : DE X a S u S1) (hl : DO X lo S1 l S2) (hh : DO X hi S2 h S3) (q : LU S3.m u ds) (hm : Made S3 (.lst (cutA ds l h)) z S') : DE X (.Subscript a (.Slice lo hi none p2) pos) S z S' :=
  PE.wk (pe_slice sl_list ha hl hh) fun σ H Q ⟨F, G, α, R, k⟩ => ⟨F, G, α, R, fun v G1 α1 H1 g1 a1 R1 uv => ⟨F, G1, α1, R1, fun G2 α2 H2 g2 a2 R2 => ⟨F, G2, α2, R2, fun G3 α3 H3 g3 a3 R3 => by
    obtain ⟨p, vs, rfl, h1, h2⟩ := q.real R3 ((uv.on g2.1 a2.2).on g3.1 a3.2)
    refine ⟨p, vs, rfl, .of h1, fun p' hp => ?_⟩
    obtain ⟨G4, α4, g4, a4, R4, u4⟩ := R3.made hp (mo := .lst (cutA ds l h)) ⟨_, rfl, dats_cut h2 l h⟩ hm
    exact k _ G4 α4 _ (g1.trans (g2.trans (g3.trans g4))) (a1.trans (a2.trans (a3.trans a4))) R4 u4⟩⟩⟩
theorem de_slT {lo hi : Option Expr} {l h : Option Int} {p2 : Pos} (ha : DE X a S (.dat (.tup ds)) S1) (hl : DO X lo S1 l S2) (hh : DO X hi S2 h S3) : DE X (.Subscript a (.Slice lo hi none p2) pos) S (.dat (.tup (cutA ds l h))) S3 :=
  PE.wk (pe_slice sl_tupA ha hl hh) fun σ H Q ⟨F, G, α, R, k⟩ => ⟨F, G, α, R, fun v G1 α1 H1 g1 a1 R1 uv => ⟨F, G1, α1, R1, fun G2 α2 H2 g2 a2 R2 => ⟨F, G2, α2, R2, fun G3 α3 H3 g3 a3 R3 => by
    obtain ⟨p, vs, rfl, h1, h2⟩ := of_tup (Dat.mono (g2.1.trans g3.1) _ v uv)
    have hq : SqT X.K H3 p vs := .of (R3.fG _ _ h1)
    refine ⟨p, vs, rfl, hq, fun q => ?_, fun q p' hp => ?_⟩
    · refine k _ G3 α3 _ (g1.trans (g2.trans g3)) (a1.trans (a2.trans a3)) R3 ?_
      have e : cutA ds l h = ds := by
        unfold cutA
        rw [← h2.len, q.1, q.2]
        simp [h2.len]
      rw [e]
      exact Dat.tup h1 h2
    · obtain ⟨G4, g4, R4, d4⟩ := R3.madeT hp (dats_cut h2 l h)
      exact k _ G4 α3 _ (g1.trans (g2.trans (g3.trans g4))) (a1.trans (a2.trans a3)) R4 d4⟩⟩⟩
theorem de_revL {k1 : Nat} {p1 p2 p3 : Pos} (ha : DE X a S u S1) (q : LU S1.m u ds) (hm : Made S1 (.lst ds.reverse) z S2) :
    DE X (.Subscript a (.Slice none none (some (.UnaryOp .USub (.Constant (.int 1) k1 p1) p2)) p3) pos) S z S2 :=
  PE.wk (pe_revL ha) fun σ H Q ⟨F, G, α, R, k⟩ => ⟨F, G, α, R, fun v G1 α1 H1 g1 a1 R1 uv => by
    obtain ⟨p, vs, rfl, h1, h2⟩ := q.real R1 uv
    refine ⟨p, vs, rfl, .of h1, fun p' hp => ?_⟩
    obtain ⟨G4, α4, g4, a4, R4, u4⟩ := R1.made hp (mo := .lst ds.reverse) ⟨_, rfl, h2.rev⟩ hm
    exact k _ G4 α4 _ (g1.trans g4) (a1.trans a4) R4 u4⟩
/-! ### + and * of lists and tuples -/
theorem de_cat (ha : DE X a S u S1) (hb : DE X b S1 w S2) (q : LU S2.m u ds) (r : LU S2.m w es') (hz : ds.length + es'.length ≤ 1000000) (hm : Made S2 (.lst (ds ++ es')) z S3) : DE X (.BinOp a .Add b pos) S z S3 :=
  de_op op_cat ha hb fun F G α σ H v y Q R hu hw k => by
    obtain ⟨p, vs, rfl, h1, h2⟩ := q.real R hu
    obtain ⟨p', ws, rfl, h1', h2'⟩ := r.real R hw
    refine ⟨p, p', vs, ws, rfl, rfl, h1, h1', by rw [h2.len, h2'.len, sizeLine_eq]; omega, fun p hp => ?_⟩
    obtain ⟨G4, α4, g4, a4, R4, u4⟩ := R.made hp (mo := .lst (ds ++ es')) ⟨_, rfl, h2.app h2'⟩ hm
    exact k _ G4 α4 _ g4 a4 R4 u4
theorem de_catT (ha : DE X a S (.dat (.tup ds)) S1) (hb : DE X b S1 (.dat (.tup es')) S2) (hz : ds.length + es'.length ≤ 1000000) : DE X (.BinOp a .Add b pos) S (.dat (.tup (ds ++ es'))) S2 :=
  de_op op_catA ha hb fun F G α σ H v y Q R hu hw k => by
    obtain ⟨p, vs, rfl, h1, h2⟩ := of_tup hu
    obtain ⟨p', ws, rfl, h1', h2'⟩ := of_tup hw
    refine ⟨p, p', vs, ws, rfl, rfl, .of (R.fG _ _ h1), .of (R.fG _ _ h1'), by rw [h2.len, h2'.len, sizeLine_eq]; omega, fun e => ?_, fun _ e => ?_, fun _ _ p hp => ?_⟩
    · have e0 : ds = [] := List.eq_nil_of_length_eq_zero (by rw [← h2.len, e]; rfl)
      rw [e0] at k
      exact k _ G α H .refl .refl R (.tup h1' h2')
    · have e0 : es' = [] := List.eq_nil_of_length_eq_zero (by rw [← h2'.len, e]; rfl)
      rw [e0, List.append_nil] at k
      exact k _ G α H .refl .refl R (.tup h1 h2)
    · obtain ⟨G4, g4, R4, d4⟩ := R.madeT hp (h2.app h2')
      exact k _ G4 α _ g4 .refl R4 d4
theorem dats_rep {K : PySem.W.Frag} {G : Hp} {ds : List D} {vs : List V} (h : Dats K G ds vs) : ∀ n : Nat, Dats K G (List.replicate n ds).flatten (List.replicate n vs).flatten
  | 0 => .nil
  | n + 1 => by
    rw [List.replicate_succ, List.replicate_succ, List.flatten_cons, List.flatten_cons]
    exact h.app (dats_rep h n)
theorem de_rep {i : Int} (ha : DE X a S u S1) (hb : DE X b S1 (.dat (.int i)) S2) (q : LU S2.m u ds) (hi : 0 ≤ i ∧ i ≤ 1000 ∧ ds.length ≤ 1000) (hm : Made S2 (.lst (List.replicate i.toNat ds).flatten) z S3) : DE X (.BinOp a .Mult b pos) S z S3 :=
  de_op op_rep ha hb fun F G α σ H v y Q R hu hw k => by
    obtain ⟨p, vs, rfl, h1, h2⟩ := q.real R hu
    have h5 : vs.length * i.toNat ≤ 1000 * 1000 := Nat.mul_le_mul (by rw [h2.len]; omega) (by omega)
    refine ⟨p, i, vs, rfl, of_int hw, h1, by omega, by omega, by rw [sizeLine_eq]; omega, fun p hp => ?_⟩
    obtain ⟨G4, α4, g4, a4, R4, u4⟩ := R.made hp (mo := .lst (List.replicate i.toNat ds).flatten) ⟨_, rfl, dats_rep h2 _⟩ hm
    exact k _ G4 α4 _ g4 a4 R4 u4
/-! ### len -/
/-- what len tells -/
inductive LenU (m : List (Option MO)) : U → Nat → Prop
  | lst {u : U} {ds : List D} : LU m u ds → LenU m u ds.length
  | tup (ds : List D) : LenU m (.dat (.tup ds)) ds.length
  | rol (ds : List D) : LenU m (.dat (.rol ds)) ds.length
theorem de_len {n : Nat} {x : Expr} {p : Pos} (hm : X.mg "len" = none) (ha : DE X x S u S1) (hl : LenU S1.m u n) (hg : Gl X "len" := by rfl) (he : starEach [x] X.env = (false, eval x X.env) :: starEach [] X.env := by rfl) : DE X (.Call (.Name "len" p) [x] [] pos) S (.dat (.int n)) S1 :=
  de_callB call_len_seq hm boot_len (da_cons ha da_nil he) (fun F G α σ H vs Q R hv k => by
    obtain ⟨v, r, rfl, h1, h2⟩ := hv
    have e : r = [] := h2
    subst e
    cases hl with
    | lst l =>
      obtain ⟨p, vs, rfl, h3, h4⟩ := l.real R h1
      exact ⟨p, _, rfl, .inl (.of h3), k _ G α H .refl .refl R (by rw [h4.len]; exact .int _)⟩
    | tup ds =>
      obtain ⟨p, vs, rfl, h3, h4⟩ := of_tup h1
      exact ⟨p, _, rfl, .inr (.of (R.fG _ _ h3)), k _ G α H .refl .refl R (by rw [h4.len]; exact .int _)⟩
    | rol ds =>
      obtain ⟨p, vs, rfl, h3, h4⟩ := of_rol h1
      exact ⟨p, _, rfl, .inl (R.fG.seq h3), k _ G α H .refl .refl R (by rw [h4.len]; exact .int _)⟩) hg (by decide) (by decide) he
end
end DL
/-! DD: equality, membership, isinstance, methods of lists, built-ins over data. -/
namespace DL
open PySem PySem.Spec PyProof.Rows L2
/-! ### data as the model's own -/
mutual
def toPy : D → PyData
  | .non => .none
  | .bl b => .bool b
  | .int i => .int i
  | .str x => .str x
  | .lst ds => .list (toPys ds)
  | .tup ds => .tuple (toPys ds)
  | .rol ds => .list (toPys ds)
  | .dic _ ks vs => .dict ((toPys ks).zip (toPys vs))
  | .ins _ _ _ => .none
  | .ty _ => .none
  | .lkd _ _ => .none
  | .exc _ _ _ _ => .none
def toPys : List D → List PyData
  | [] => []
  | d :: ds => toPy d :: toPys ds
end
mutual
/-- nothing but None, truths, ints, short texts, lists, tuples; n bounds the depth -/
def good : Nat → D → Bool
  | _, .non => true
  | _, .bl _ => true
  | _, .int _ => true
  | _, .str x => PyData.canLay0 (.str x)
  | 0, _ => false
  | n + 1, .lst ds => goods n ds
  | n + 1, .tup ds => goods n ds
  | _ + 1, _ => false
def goods : Nat → List D → Bool
  | _, [] => true
  | n, d :: ds => good n d && goods n ds
end
theorem goods_all {n : Nat} : ∀ {ds : List D}, goods n ds = true ↔ ∀ d ∈ ds, good n d = true
  | [] => by simp [goods]
  | d :: ds => by
    simp only [goods, Bool.and_eq_true, List.mem_cons, forall_eq_or_imp, goods_all (ds := ds)]
theorem good_lst {n : Nat} {ds : List D} (h : ∀ d ∈ ds, good n d = true) : good (n + 1) (.lst ds) = true := by
  simp only [good]
  exact goods_all.mpr h
theorem good_tup {n : Nat} {ds : List D} (h : ∀ d ∈ ds, good n d = true) : good (n + 1) (.tup ds) = true := by
  simp only [good]
  exact goods_all.mpr h
theorem good_int {n : Nat} {i : Int} : good n (.int i) = true := by cases n <;> simp only [good]
theorem good_bl {n : Nat} {b : Bool} : good n (.bl b) = true := by cases n <;> simp only [good]
theorem good_non {n : Nat} : good n .non = true := by cases n <;> simp only [good]
section
variable {K : PySem.W.Frag} {H : Hp}
mutual
theorem good.dp : ∀ (n : Nat) (d : D) (v : V), good n d = true → Dat K H d v → Dp K H v (toPy d)
  | _, .non, _, _, h => by rw [of_non h]; simp only [toPy]; exact .non
  | _, .bl b, _, _, h => by rw [of_bl h]; simp only [toPy]; exact .bl b
  | _, .int i, _, _, h => by rw [of_int h]; simp only [toPy]; exact .int i
  | _, .str x, _, _, h => by rw [of_str h]; simp only [toPy]; exact .str x
  | n + 1, .lst ds, _, g, h => by
    simp only [good] at g
    obtain ⟨a, vs, rfl, h1, h2⟩ := of_lst h
    simp only [toPy]
    exact .lst (.of h1) (goods.dp n ds vs g h2)
  | n + 1, .tup ds, _, g, h => by
    simp only [good] at g
    obtain ⟨a, vs, rfl, h1, h2⟩ := of_tup h
    simp only [toPy]
    exact .tup (.of h1) (goods.dp n ds vs g h2)
  | 0, .lst _, _, g, _ => by simp only [good, Bool.false_eq_true] at g
  | 0, .tup _, _, g, _ => by simp only [good, Bool.false_eq_true] at g
  | 0, .rol _, _, g, _ => by simp only [good, Bool.false_eq_true] at g
  | 0, .dic _ _ _, _, g, _ => by simp only [good, Bool.false_eq_true] at g
  | 0, .ins _ _ _, _, g, _ => by simp only [good, Bool.false_eq_true] at g
  | 0, .ty _, _, g, _ => by simp only [good, Bool.false_eq_true] at g
  | 0, .lkd _ _, _, g, _ => by simp only [good, Bool.false_eq_true] at g
  | 0, .exc _ _ _ _, _, g, _ => by simp only [good, Bool.false_eq_true] at g
  | n + 1, .rol _, _, g, _ => by simp only [good, Bool.false_eq_true] at g
  | n + 1, .dic _ _ _, _, g, _ => by simp only [good, Bool.false_eq_true] at g
  | n + 1, .ins _ _ _, _, g, _ => by simp only [good, Bool.false_eq_true] at g
  | n + 1, .ty _, _, g, _ => by simp only [good, Bool.false_eq_true] at g
  | n + 1, .lkd _ _, _, g, _ => by simp only [good, Bool.false_eq_true] at g
  | n + 1, .exc _ _ _ _, _, g, _ => by simp only [good, Bool.false_eq_true] at g
theorem goods.dp : ∀ (n : Nat) (ds : List D) (vs : List V), goods n ds = true → Dats K H ds vs → DpAll K H vs (toPys ds)
  | _, [], _, _, h => by rw [of_dats0 h]; simp only [toPys]; exact .nil
  | n, d :: ds, _, g, h => by
    simp only [goods, Bool.and_eq_true] at g
    obtain ⟨v, r, rfl, h1, h2⟩ := of_dats h
    simp only [toPys]
    exact .cons (good.dp n d v g.1 h1) (goods.dp n ds r g.2 h2)
end
mutual
theorem good.lay : ∀ (n : Nat) (d : D), good n d = true → PyData.canLay0 (toPy d) = true ∧ PyData.depth (toPy d) ≤ n
  | _, .non, _ => by simp only [toPy, PyData.canLay0, PyData.depth]; exact ⟨trivial, Nat.zero_le _⟩
  | _, .bl b, _ => by simp only [toPy, PyData.canLay0, PyData.depth]; exact ⟨trivial, Nat.zero_le _⟩
  | _, .int i, _ => by simp only [toPy, PyData.canLay0, PyData.depth]; exact ⟨trivial, Nat.zero_le _⟩
  | n, .str x, g => by
    have g' : PyData.canLay0 (.str x) = true := by cases n <;> simpa only [good] using g
    simp only [toPy, PyData.depth]
    exact ⟨g', Nat.zero_le _⟩
  | n + 1, .lst ds, g => by
    simp only [good] at g
    obtain ⟨h1, h2⟩ := goods.lay n ds g
    simp only [toPy, PyData.canLay0, PyData.depth]
    exact ⟨h1, Nat.succ_le_succ h2⟩
  | n + 1, .tup ds, g => by
    simp only [good] at g
    obtain ⟨h1, h2⟩ := goods.lay n ds g
    simp only [toPy, PyData.canLay0, PyData.depth]
    exact ⟨h1, Nat.succ_le_succ h2⟩
  | 0, .lst _, g => by simp only [good, Bool.false_eq_true] at g
  | 0, .tup _, g => by simp only [good, Bool.false_eq_true] at g
  | 0, .rol _, g => by simp only [good, Bool.false_eq_true] at g
  | 0, .dic _ _ _, g => by simp only [good, Bool.false_eq_true] at g
  | 0, .ins _ _ _, g => by simp only [good, Bool.false_eq_true] at g
  | 0, .ty _, g => by simp only [good, Bool.false_eq_true] at g
  | 0, .lkd _ _, g => by simp only [good, Bool.false_eq_true] at g
  | 0, .exc _ _ _ _, g => by simp only [good, Bool.false_eq_true] at g
  | n + 1, .rol _, g => by simp only [good, Bool.false_eq_true] at g
  | n + 1, .dic _ _ _, g => by simp only [good, Bool.false_eq_true] at g
  | n + 1, .ins _ _ _, g => by simp only [good, Bool.false_eq_true] at g
  | n + 1, .ty _, g => by simp only [good, Bool.false_eq_true] at g
  | n + 1, .lkd _ _, g => by simp only [good, Bool.false_eq_true] at g
  | n + 1, .exc _ _ _ _, g => by simp only [good, Bool.false_eq_true] at g
theorem goods.lay : ∀ (n : Nat) (ds : List D), goods n ds = true → PyData.canLayAll0 (toPys ds) = true ∧ PyData.depthAll (toPys ds) ≤ n
  | _, [], _ => by simp only [toPys, PyData.canLayAll0, PyData.depthAll]; exact ⟨trivial, Nat.zero_le _⟩
  | n, d :: ds, g => by
    simp only [goods, Bool.and_eq_true] at g
    obtain ⟨h1, h2⟩ := good.lay n d g.1
    obtain ⟨h3, h4⟩ := goods.lay n ds g.2
    simp only [toPys, PyData.canLayAll0, PyData.depthAll, h1, h3, Bool.and_self]
    exact ⟨trivial, Nat.max_le.mpr ⟨h2, h4⟩⟩
end
theorem good.shaped {n : Nat} {d : D} (g : good n d = true) (hn : n ≤ 64 := by decide) : SeqAt.shaped (toPy d) = true := by
  obtain ⟨h1, h2⟩ := good.lay n d g
  show (PyData.canLay0 (toPy d) && decide (PyData.depth (toPy d) ≤ 64)) = true
  rw [h1, decide_eq_true (Nat.le_trans h2 hn)]
  rfl
end
/-! ### equality of data -/
def eqD (d e : D) : Bool := PyData.eqv (toPy d) (toPy e)
def eqDs (ds es : List D) : Bool := PyData.eqvAll (toPys ds) (toPys es)
mutual
/-- no truths, no dicts: what is equal is the same -/
def exact : D → Bool
  | .non => true
  | .int _ => true
  | .str _ => true
  | .lst ds => exacts ds
  | .tup ds => exacts ds
  | _ => false
def exacts : List D → Bool
  | [] => true
  | d :: ds => exact d && exacts ds
end
theorem exacts_all : ∀ {ds : List D}, exacts ds = true ↔ ∀ d ∈ ds, exact d = true
  | [] => by simp [exacts]
  | d :: ds => by simp only [exacts, Bool.and_eq_true, List.mem_cons, forall_eq_or_imp, exacts_all (ds := ds)]
mutual
theorem eqD_iff : ∀ (d e : D), exact d = true → exact e = true → (eqD d e = true ↔ d = e)
  | .non, e, _, he => by cases e <;> simp_all [exact, eqD, toPy, PyData.eqv]
  | .int i, e, _, he => by cases e <;> simp_all [exact, eqD, toPy, PyData.eqv]
  | .str x, e, _, he => by cases e <;> simp_all [exact, eqD, toPy, PyData.eqv]
  | .lst ds, e, hd, he => by
    cases e with
    | lst es =>
      simp only [exact] at hd he
      have := eqDs_iff ds es hd he
      simp only [eqD, toPy, PyData.eqv, D.lst.injEq]
      exact this
    | _ => simp_all [exact, eqD, toPy, PyData.eqv]
  | .tup ds, e, hd, he => by
    cases e with
    | tup es =>
      simp only [exact] at hd he
      have := eqDs_iff ds es hd he
      simp only [eqD, toPy, PyData.eqv, D.tup.injEq]
      exact this
    | _ => simp_all [exact, eqD, toPy, PyData.eqv]
  | .bl b, _, hd, _ => by simp [exact] at hd
  | .dic _ _ _, _, hd, _ => by simp [exact] at hd
  | .ins _ _ _, _, hd, _ => by simp [exact] at hd
  | .rol _, _, hd, _ => by simp [exact] at hd
  | .ty _, _, hd, _ => by simp [exact] at hd
  | .lkd _ _, _, hd, _ => by simp [exact] at hd
  | .exc _ _ _ _, _, hd, _ => by simp [exact] at hd
theorem eqDs_iff : ∀ (ds es : List D), exacts ds = true → exacts es = true → (eqDs ds es = true ↔ ds = es)
  | [], [], _, _ => by simp [eqDs, toPys, PyData.eqvAll]
  | [], e :: es, _, _ => by simp [eqDs, toPys, PyData.eqvAll]
  | d :: ds, [], _, _ => by simp [eqDs, toPys, PyData.eqvAll]
  | d :: ds, e :: es, hd, he => by
    simp only [exacts, Bool.and_eq_true] at hd he
    have h1 := eqD_iff d e hd.1 he.1
    have h2 := eqDs_iff ds es hd.2 he.2
    simp only [eqDs, toPys, PyData.eqvAll, Bool.and_eq_true, List.cons.injEq]
    exact and_congr h1 h2
end
section
variable {X : Cx} {e a b c : Expr} {S S1 S2 S3 S' : DSt} {u w z : U} {pos : Pos} {es : List Expr} {us : List U} {ds es' : List D} {d d' : D}
theorem opd_eqD {K : PySem.W.Frag} (h1 : View S.m u d) (h2 : View S.m w d') (g1 : good 60 d = true) (g2 : good 60 d' = true) : OpD K (rEqD K) S u w (.dat (.bl (eqD d d'))) S := by
  intro F G α σ H v y Q R hu hw k
  exact ⟨_, _, good.dp 60 d v g1 (h1.real R hu), good.dp 60 d' y g2 (h2.real R hw), good.shaped g1, good.shaped g2, k _ G α H .refl .refl R (.bl _)⟩
theorem opd_neD {K : PySem.W.Frag} (h1 : View S.m u d) (h2 : View S.m w d') (g1 : good 60 d = true) (g2 : good 60 d' = true) : OpD K (rNeD K) S u w (.dat (.bl (!eqD d d'))) S := by
  intro F G α σ H v y Q R hu hw k
  exact ⟨_, _, good.dp 60 d v g1 (h1.real R hu), good.dp 60 d' y g2 (h2.real R hw), good.shaped g1, good.shaped g2, k _ G α H .refl .refl R (.bl _)⟩
theorem toPys_map : ∀ ds : List D, toPys ds = ds.map toPy
  | [] => by simp [toPys]
  | d :: ds => by simp [toPys, toPys_map ds]
theorem opd_inD {K : PySem.W.Frag} (h1 : View S.m u d) (h2 : View S.m w (.lst ds)) (g1 : good 60 d = true) (g2 : good 60 (.lst ds) = true) : OpD K (rInD K) S u w (.dat (.bl (ds.any fun z => eqD z d))) S := by
  intro F G α σ H v y Q R hu hw k
  have hy := good.dp 60 (.lst ds) y g2 (h2.real R hw)
  have sy := good.shaped g2
  simp only [toPy] at hy sy
  refine ⟨_, _, good.dp 60 d v g1 (h1.real R hu), hy, good.shaped g1, sy, k _ G α H .refl .refl R ?_⟩
  rw [toPys_map, List.any_map]
  exact .bl _
theorem opd_notInD {K : PySem.W.Frag} (h1 : View S.m u d) (h2 : View S.m w (.lst ds)) (g1 : good 60 d = true) (g2 : good 60 (.lst ds) = true) : OpD K (rNotInD K) S u w (.dat (.bl (!ds.any fun z => eqD z d))) S := by
  intro F G α σ H v y Q R hu hw k
  have hy := good.dp 60 (.lst ds) y g2 (h2.real R hw)
  have sy := good.shaped g2
  simp only [toPy] at hy sy
  refine ⟨_, _, good.dp 60 d v g1 (h1.real R hu), hy, good.shaped g1, sy, k _ G α H .refl .refl R ?_⟩
  rw [toPys_map, List.any_map]
  exact .bl _
/-! ### isinstance with built-in types -/
def tyN : D → String
  | .non => "NoneType"
  | .bl _ => "bool"
  | .int _ => "int"
  | .str _ => "str"
  | .lst _ => "list"
  | .tup _ => "tuple"
  | .rol _ => "list"
  | .dic _ _ _ => "dict"
  | .lkd _ _ => "dict"
  | _ => ""
/-- a type's datum; a dict that is locked may stand on tuples too -/
inductive TyY (K : PySem.W.Frag) (H : Hp) : V → Value → Prop where
  | of {x : V} {t : Value} (h : TyX K H x t) : TyY K H x t
  | fT {a : Addr} {o : Obj} {kvs : List (List Key × V)} (e : H a = some (.frz o (.dT kvs))) : TyY K H (.ref a) (.type "dict")
theorem kit_ofY {pins : List (Addr × Obj)} {σ : L2.St} {H : Hp} {s : Shared} {x : V} {u t : Value} (I : Inv X pins σ H s) (rx : RelV x u) (ty : TyY X.K H x t) : ∃ P : Heap → Prop, PySem.W.KitX X.K u t P ∧ P s.heap ∧ u ≠ .builtin "__main__.__loader__#opaque" := by
  cases ty with
  | of h => exact kit_of I rx h
  | @fT a ob kvs ea =>
    have e : u = Value.ref a := rx
    rw [e]
    obtain ⟨_, _, _, _, _, o, es, ep, h1, h2, _⟩ := (show ObjOk X.prog X.w H s.heap a (.frz ob (.dT kvs)) from I.hok a _ ea)
    exact ⟨_, PySem.W.kitx_dict, ⟨o, h1, h2.1⟩, fun z => nomatch z⟩
theorem tyy_of {K : PySem.W.Frag} {H : Hp} {d : D} {v : V} (h : Dat K H d v) (hn : tyN d ≠ "") : TyY K H v (.type (tyN d)) := by
  cases d with
  | non => rw [of_non h]; exact .of (.base .non)
  | bl b => rw [of_bl h]; exact .of (.base (.bl b))
  | int i => rw [of_int h]; exact .of (.base (.int i))
  | str x => rw [of_str h]; exact .of (.base (.str x))
  | lst ds => obtain ⟨a, vs, rfl, h1, _⟩ := of_lst h; exact .of (.base (.lst h1))
  | tup ds => obtain ⟨a, vs, rfl, h1, _⟩ := of_tup h; exact .of (.base (.tup h1))
  | rol ds =>
    obtain ⟨a, vs, rfl, h1, _⟩ := of_rol h
    rcases h1 with (h1 | ⟨o, h1⟩) | ⟨o, its, n, h1, h2, _⟩
    · exact .of (.base (.lst h1))
    · exact .of (.base (.frz h1))
    · exact .of (.kList h1 h2)
  | dic t ks ds =>
    obtain ⟨a, vs, rfl, h1, _⟩ := of_dic h
    cases t with
    | true =>
      obtain ⟨kvs, h1 | ⟨o, h1⟩, _⟩ := h1
      · exact .of (.base (.dT h1))
      · exact .fT h1
    | false =>
      obtain ⟨kvs, h1 | ⟨o, h1⟩, _⟩ := h1
      · exact .of (.base (.dK h1))
      · exact .of (.fDict h1)
  | ins C ns ds => exact absurd rfl hn
  | ty n => exact absurd rfl hn
  | lkd ks ds => obtain ⟨a, o, kvs, rfl, h1, _⟩ := of_lkd h; exact .fT h1
  | exc _ _ _ _ => exact absurd rfl hn
def tyAll : List String := ["NoneType", "bool", "int", "str", "list", "tuple", "dict"]
def isiT (n T : String) : Bool := n == T || (n == "bool" && T == "int")
theorem kit_tab : ∀ n ∈ tyAll, ∀ T ∈ tyAll, kitB n T = some (isiT n T) := by decide +kernel
theorem tyN_mem {d : D} (h : tyN d ≠ "") : tyN d ∈ tyAll := by
  cases d <;> first | exact absurd rfl h | simp only [tyN, tyAll] <;> decide
/-- isinstance(x, T) -/
def rIsY (K : PySem.W.Frag) : List V → Hp → VK → Prop := fun xs H Q => ∃ (x : V) (T : String) (t : Value) (b : Bool), xs = [x, .ty T] ∧ TyY K H x t ∧ PySem.W.kitOne K t (.type T) = some b ∧ Q (.bl b) H
theorem call_isY : CallR X (.builtin "isinstance") (rIsY X.K) := by
  intro pins s σ H xs us Q I r h
  obtain ⟨x, T, t, b, rfl, ty, e, q⟩ := h
  obtain ⟨u1, u2, rfl, r1, r2⟩ := vals2 r
  have e2 : u2 = Value.type T := r2
  rw [e2]
  obtain ⟨P, Z, p, hx⟩ := kit_ofY I r1 ty
  exact PySem.W.kia_one Z I.kIn p e hx fun tk => ⟨.bl b, H, I.tok tk, rfl, q⟩
/-- isinstance(x, (T, ..)) -/
def rIsYT (K : PySem.W.Frag) : List V → Hp → VK → Prop := fun xs H Q => ∃ (x : V) (tp : Addr) (Ts : List String) (t : Value) (b : Bool), xs = [x, .ref tp] ∧ H tp = some (.tup (Ts.map V.ty)) ∧ TyY K H x t ∧ PySem.W.kitAny K t (Ts.map Value.type) = some b ∧ Q (.bl b) H
theorem vals_ty : ∀ {Ts : List String} {us : List Value}, Vals (Ts.map V.ty) us → us = Ts.map Value.type
  | [], _, .nil => rfl
  | T :: Ts, _, .cons r t => by
    have e : _ = Value.type T := r
    rw [e, vals_ty t]
    rfl
theorem call_isYT : CallR X (.builtin "isinstance") (rIsYT X.K) := by
  intro pins s σ H xs us Q I r h
  obtain ⟨x, tp, Ts, t, b, rfl, hT, ty, e, q⟩ := h
  obtain ⟨u1, u2, rfl, r1, r2⟩ := vals2 r
  have e2 : u2 = Value.ref tp := r2
  rw [e2]
  obtain ⟨P, Z, p, hx⟩ := kit_ofY I r1 ty
  obtain ⟨_, its, rv, o, h1, h2, n, h3⟩ := (show ObjOk X.prog X.w H s.heap tp (.tup (Ts.map V.ty)) from I.hok tp _ hT)
  have e3 := vals_ty rv
  subst e3
  obtain ⟨oc, od, dt, sl⟩ := o
  simp only at h2 h3
  subst h2 h3
  exact PySem.W.kia_tup Z I.kIn p h1 e hx fun tk => ⟨.bl b, H, I.tok tk, rfl, q⟩
theorem de_bltn {x : Str} {T : String} (hm : X.mg x = none) (hv : bootBuiltins x = some (.type T)) (hg : Gl X x := by rfl) (hn : x ≠ "__name__" := by decide) (hd : (x == ("__debug__" : Str)) = false := by decide) : DE X (.Name x pos) S (.dat (.ty T)) S :=
  PE.wk (pe_bltn (v := .ty T) hg hm hv rfl hn hd) fun σ H Q ⟨F, G, α, R, k⟩ => k _ G α H .refl .refl R (.ty T)
theorem de_isi {p : Pos} {T : String} (hm : X.mg "isinstance" = none) (ha : DE X a S u S1) (hb : DE X b S1 (.dat (.ty T)) S2) (hv : View S2.m u d) (hd : tyN d ≠ "") (hT : T ∈ tyAll := by decide) (hg : Gl X "isinstance" := by rfl)
    (he : starEach [a, b] X.env = (false, eval a X.env) :: starEach [b] X.env := by rfl) (he2 : starEach [b] X.env = (false, eval b X.env) :: starEach [] X.env := by rfl) (hpl : (backTo pos (starEach [b] X.env)).any (·.1) = false := by rfl) :
    DE X (.Call (.Name "isinstance" p) [a, b] [] pos) S (.dat (.bl (isiT (tyN d) T))) S2 :=
  de_callB call_isY hm PyProof.Rows.boot_isinstance (da_cons ha (da_cons hb da_nil he2) he) (fun F G α σ H vs Q R hvs k => by
    obtain ⟨v, r, rfl, h1, v2, r2, rfl, h2, h3⟩ := hvs
    have e : r2 = [] := h3
    subst e
    exact ⟨v, T, _, _, by rw [of_ty (show Dat X.K G (.ty T) v2 from h2)], tyy_of (hv.real R h1) hd, kit_ty (kit_tab _ (tyN_mem hd) _ hT), k _ G α H .refl .refl R (.bl _)⟩) hg (by decide) (by decide) he hpl
theorem kitAny2 {K : PySem.W.Frag} {n T1 T2 : String} (hn : n ∈ tyAll) (h1 : T1 ∈ tyAll) (h2 : T2 ∈ tyAll) : PySem.W.kitAny K (.type n) ([T1, T2].map Value.type) = some (isiT n T1 || isiT n T2) := by
  refine kitAny_cons (kit_ty (kit_tab n hn T1 h1)) (fun e => ?_) fun e => by rw [e]; rfl
  rw [e, Bool.false_or]
  refine kitAny_cons (kit_ty (kit_tab n hn T2 h2)) (fun e => ?_) fun e => e
  rw [e]
  exact kitAny_nil
theorem de_isi2 {p : Pos} {T1 T2 : String} (hm : X.mg "isinstance" = none) (ha : DE X a S u S1) (hb : DE X b S1 (.dat (.tup [.ty T1, .ty T2])) S2) (hv : View S2.m u d) (hd : tyN d ≠ "") (hT : T1 ∈ tyAll := by decide) (hT2 : T2 ∈ tyAll := by decide) (hg : Gl X "isinstance" := by rfl)
    (he : starEach [a, b] X.env = (false, eval a X.env) :: starEach [b] X.env := by rfl) (he2 : starEach [b] X.env = (false, eval b X.env) :: starEach [] X.env := by rfl) (hpl : (backTo pos (starEach [b] X.env)).any (·.1) = false := by rfl) :
    DE X (.Call (.Name "isinstance" p) [a, b] [] pos) S (.dat (.bl (isiT (tyN d) T1 || isiT (tyN d) T2))) S2 :=
  de_callB call_isYT hm PyProof.Rows.boot_isinstance (da_cons ha (da_cons hb da_nil he2) he) (fun F G α σ H vs Q R hvs k => by
    obtain ⟨v, r, rfl, h1, v2, r2, rfl, h2, h3⟩ := hvs
    have e : r2 = [] := h3
    subst e
    obtain ⟨tp, ws, rfl, h4, h5⟩ := of_tup (show Dat X.K G (.tup [.ty T1, .ty T2]) v2 from h2)
    obtain ⟨w1, r1, rfl, q1, h6⟩ := of_dats h5
    obtain ⟨w2, r2, rfl, q2, h7⟩ := of_dats h6
    have e3 := of_dats0 h7
    subst e3
    rw [of_ty q1, of_ty q2] at h4
    exact ⟨v, tp, [T1, T2], _, _, rfl, R.fG _ _ h4, tyy_of (hv.real R h1) hd, kitAny2 (tyN_mem hd) hT hT2, k _ G α H .refl .refl R (.bl _)⟩) hg (by decide) (by decide) he hpl
/-! ### methods -/
def MD (K : PySem.W.Frag) (r : V → List V → Hp → VK → Prop) (S : DSt) (u : U) (us : List U) (z : U) (S' : DSt) : Prop := ∀ F G α σ H x vs Q, Rl K F G α S σ H → UV K G α S.m u x → UVs K G α S.m us vs →
  (∀ v' G' α' H', GX F G G' → AX S S' α α' → Rl K F G' α' S' σ H' → UV K G' α' S'.m z v' → Q v' H') → r x vs H Q
/-- of what type the receiver is -/
def TyR (K : PySem.W.Frag) (T : String) (S : DSt) (u : U) : Prop := ∀ F G α σ H x, Rl K F G α S σ H → UV K G α S.m u x → tyV K T x H
theorem tyr_lst {K : PySem.W.Frag} (l : LU S.m u ds) : TyR K "list" S u := fun F G α σ H x R h => by
  obtain ⟨p, vs, rfl, h1, _⟩ := l.real R h
  exact .inl ⟨rfl, _, .of h1⟩
variable {o : Expr} {name : Str} {apos cpos : Pos} {T id : String} {r : V → List V → Hp → VK → Prop}
theorem de_bm0 (pa : PlainAttrs T) (slot : Slot T name id) (hty : typeOf (.builtin id) = pure (.type "method_descriptor")) (hm : MtR X id r) (ho : DE X o S u S1) (ht : TyR X.K T S1 u) (hr : MD X.K r S1 u [] z S2)
    (hbase : attributeBase o name X.env (eval o X.env) = eval o X.env := by rfl) (hline : (apos.endLine == cpos.line) = true := by rfl) : DE X (.Call (.Attribute o name apos) [] [] cpos) S z S2 :=
  PE.wk (pe_bm0 pa slot hty hm ho hbase hline) fun σ H Q ⟨F, G, α, R, k⟩ => ⟨F, G, α, R, fun v G1 α1 H1 g1 a1 R1 uv => ⟨ht F G1 α1 σ H1 v R1 uv, hr F G1 α1 σ H1 v [] Q R1 uv rfl fun v' G2 α2 H2 g2 a2 R2 uz =>
    k v' G2 α2 H2 (g1.trans g2) (a1.trans a2) R2 uz⟩⟩
theorem de_bm (pa : PlainAttrs T) (slot : Slot T name id) (hty : typeOf (.builtin id) = pure (.type "method_descriptor")) (hm : MtR X id r) (ho : DE X o S u S1) (ht : TyR X.K T S1 u) (ha : DAr X (e :: es) S1 us S2) (hr : MD X.K r S2 u us z S3)
    (hbase : attributeBase o name X.env (eval o X.env) = eval o X.env := by rfl)
    (hfew : ((backTo cpos (starEach (e :: es) X.env)).all (fun x => !x.1) && (backToKw cpos (keywordEach [] X.env)).all (fun x => x.1.isSome)
      && decide ((e :: es).length + ([] : List Keyword).length + (if ([] : List Keyword).isEmpty then 0 else 1) < 30)) = true := by rfl)
    (hline : (apos.endLine == cpos.line) = true := by rfl) (hs : starEach (e :: es) X.env = (false, eval e X.env) :: starEach es X.env := by rfl) (hplain : (backTo cpos (starEach es X.env)).any (·.1) = false := by rfl) :
    DE X (.Call (.Attribute o name apos) (e :: es) [] cpos) S z S3 :=
  PE.wk (pe_bm pa slot hty hm ho ha hbase hfew hline hs hplain) fun σ H Q ⟨F, G, α, R, k⟩ => ⟨F, G, α, R, fun v G1 α1 H1 g1 a1 R1 uv => ⟨ht F G1 α1 σ H1 v R1 uv, ⟨F, G1, α1, R1, fun vs G2 α2 H2 g2 a2 R2 uvs =>
    hr F G2 α2 σ H2 v vs Q R2 (uv.on g2.1 a2.2) uvs fun v' G3 α3 H3 g3 a3 R3 uz => k v' G3 α3 H3 (g1.trans (g2.trans g3)) (a1.trans (a2.trans a3)) R3 uz⟩⟩⟩
theorem ownL {K : PySem.W.Frag} {F G : Hp} {α : Nat → Addr} {σ : L2.St} {H : Hp} {n : Nat} (R : Rl K F G α S σ H) (h : S.m[n]? = some (some (.lst ds))) : ∃ vs, H (α n) = some (.lst vs) ∧ Dats K G ds vs := by
  obtain ⟨_, _, o, h3, vs, rfl, h4⟩ := R.mu _ _ h
  exact ⟨vs, h3, h4⟩
theorem md_append {K : PySem.W.Frag} {n : Nat} (h : S.m[n]? = some (some (.lst ds))) (hz : ds.length ≤ 1000000) : MD K rAppend S (.own n) [.dat d] (.dat .non) (setM S n (.lst (ds ++ [d]))) := by
  intro F G α σ H x vs Q R hx hvs k
  obtain ⟨v, r, rfl, h1, h2⟩ := hvs
  have e : r = [] := h2
  subst e
  obtain ⟨ws, h3, h4⟩ := ownL R h
  obtain ⟨a', R'⟩ := R.write (n := n) (mo := .lst (ds ++ [d])) (o := .lst (ws ++ [v])) hx.2 ⟨_, rfl, h4.app (.cons h1 .nil)⟩
  exact ⟨α n, ws, v, hx.1, rfl, h3, by rw [h4.len, sizeLine_eq]; omega, k _ G α _ .refl a' R' .non⟩
theorem md_extend {K : PySem.W.Frag} {n : Nat} (h : S.m[n]? = some (some (.lst ds))) (l : LU S.m w es') (hz : ds.length + es'.length ≤ 1000000) : MD K rExtend S (.own n) [w] (.dat .non) (setM S n (.lst (ds ++ es'))) := by
  intro F G α σ H x vs Q R hx hvs k
  obtain ⟨v, r, rfl, h1, h2⟩ := hvs
  have e : r = [] := h2
  subst e
  obtain ⟨ws, h3, h4⟩ := ownL R h
  obtain ⟨p, ys, rfl, h5, h6⟩ := l.real R h1
  obtain ⟨a', R'⟩ := R.write (n := n) (mo := .lst (ds ++ es')) (o := .lst (ws ++ ys)) hx.2 ⟨_, rfl, h4.app h6⟩
  exact ⟨α n, p, ws, ys, hx.1, rfl, h3, h5, by rw [h4.len, h6.len, sizeLine_eq]; omega, k _ G α _ .refl a' R' .non⟩
theorem dats_erase {K : PySem.W.Frag} {G : Hp} : ∀ {ds : List D} {vs : List V} (n : Nat), Dats K G ds vs → Dats K G (ds.eraseIdx n) (vs.eraseIdx n)
  | [], _, n, h => by rw [of_dats0 h]; exact .nil
  | d :: ds, _, 0, h => by
    obtain ⟨v, r, rfl, h1, h2⟩ := of_dats h
    exact h2
  | d :: ds, _, n + 1, h => by
    obtain ⟨v, r, rfl, h1, h2⟩ := of_dats h
    exact .cons h1 (dats_erase n h2)
theorem md_popAt {K : PySem.W.Frag} {n : Nat} {i : Int} (h : S.m[n]? = some (some (.lst ds))) (h0 : 0 ≤ i) (hd : ds[i.toNat]? = some d) (hz : ds.length ≤ 1000000) : MD K rPopAt S (.own n) [.dat (.int i)] (.dat d) (setM S n (.lst (ds.eraseIdx i.toNat))) := by
  intro F G α σ H x vs Q R hx hvs k
  obtain ⟨v, r, rfl, h1, h2⟩ := hvs
  have e : r = [] := h2
  subst e
  obtain ⟨ws, h3, h4⟩ := ownL R h
  obtain ⟨y, h5, h6⟩ := h4.get hd
  have hlt := (List.getElem?_eq_some_iff.mp hd).1
  obtain ⟨a', R'⟩ := R.write (n := n) (mo := .lst (ds.eraseIdx i.toNat)) (o := .lst (ws.eraseIdx i.toNat)) hx.2 ⟨_, rfl, dats_erase _ h4⟩
  have hi : seqIndex? i ws.length = some i.toNat := seqIndex_of h0 (by rw [h4.len]; omega)
  exact ⟨α n, ws, i, i.toNat, y, hx.1, by rw [of_int h1], h3, by omega, by omega, hi, h5, k _ G α _ .refl a' R' h6⟩
theorem dats_dropLast {K : PySem.W.Frag} {G : Hp} {ds : List D} {vs : List V} (h : Dats K G ds vs) : Dats K G ds.dropLast vs.dropLast := by
  rw [List.dropLast_eq_take, List.dropLast_eq_take, h.len]
  exact h.take _
theorem md_pop {K : PySem.W.Frag} {n : Nat} (h : S.m[n]? = some (some (.lst ds))) (hd : ds[ds.length - 1]? = some d) : MD K rPop S (.own n) [] (.dat d) (setM S n (.lst ds.dropLast)) := by
  intro F G α σ H x vs Q R hx hvs k
  have e : vs = [] := hvs
  subst e
  obtain ⟨ws, h3, h4⟩ := ownL R h
  obtain ⟨y, h5, h6⟩ := h4.get hd
  obtain ⟨a', R'⟩ := R.write (n := n) (mo := .lst ds.dropLast) (o := .lst ws.dropLast) hx.2 ⟨_, rfl, dats_dropLast h4⟩
  exact ⟨α n, ws, y, hx.1, rfl, h3, by rw [h4.len]; exact h5, k _ G α _ .refl a' R' h6⟩
theorem md_clear {K : PySem.W.Frag} {n : Nat} (h : S.m[n]? = some (some (.lst ds))) : MD K rClear S (.own n) [] (.dat .non) (setM S n (.lst [])) := by
  intro F G α σ H x vs Q R hx hvs k
  have e : vs = [] := hvs
  subst e
  obtain ⟨ws, h3, h4⟩ := ownL R h
  obtain ⟨a', R'⟩ := R.write (n := n) (mo := .lst []) (o := .lst []) hx.2 ⟨_, rfl, .nil⟩
  exact ⟨α n, ws, hx.1, rfl, h3, k _ G α _ .refl a' R' .non⟩
theorem md_index {K : PySem.W.Frag} {j : Nat} {d' : D} (l : LU S.m u ds) (g1 : good 60 d = true) (g2 : good 60 (.lst ds) = true) (hj : ds[j]? = some d') (he : eqD d' d = true) (hno : ∀ m d'', m < j → ds[m]? = some d'' → eqD d'' d = false) :
    MD K (rIndexD K) S u [.dat d] (.dat (.int j)) S := by
  intro F G α σ H x vs Q R hx hvs k
  obtain ⟨v, r, rfl, h1, h2⟩ := hvs
  have e : r = [] := h2
  subst e
  obtain ⟨p, ws, rfl, h3, h4⟩ := l.real R hx
  have hy := good.dp 60 (.lst ds) (.ref p) g2 (l.view.real R hx)
  have sy := good.shaped g2
  simp only [toPy] at hy sy
  refine ⟨p, v, toPy d, toPys ds, j, toPy d', rfl, rfl, hy, good.dp 60 d v g1 (Dat.mono R.fG d v h1), sy, good.shaped g1, ?_, he, fun m z' hm hz => ?_, k _ G α H .refl .refl R (.int _)⟩
  · rw [toPys_map, List.getElem?_map, hj]
    rfl
  · rw [toPys_map, List.getElem?_map] at hz
    cases q : ds[m]? with
    | none => rw [q] at hz; cases hz
    | some d'' =>
      rw [q] at hz
      cases hz
      exact hno m d'' hm q
/-! ### built-ins of ints and lists -/
theorem de_abs {p : Pos} {i : Int} (hm : X.mg "abs" = none) (ha : DE X a S (.dat (.int i)) S1) (hg : Gl X "abs" := by rfl) (he : starEach [a] X.env = (false, eval a X.env) :: starEach [] X.env := by rfl) : DE X (.Call (.Name "abs" p) [a] [] pos) S (.dat (.int (if i < 0 then -i else i))) S1 :=
  de_callB call_abs hm PyProof.Rows.boot_abs (da_cons ha da_nil he) (fun F G α σ H vs Q R hv k => by
    obtain ⟨v, r, rfl, h1, h2⟩ := hv
    have e : r = [] := h2
    subst e
    exact ⟨i, by rw [of_int h1], k _ G α H .refl .refl R (.int _)⟩) hg (by decide) (by decide) he
theorem de_max2 {p : Pos} {i j : Int} (hc : X.calm = true) (hm : X.mg "max" = none) (ha : DE X a S (.dat (.int i)) S1) (hb : DE X b S1 (.dat (.int j)) S2) (hg : Gl X "max" := by rfl)
    (he : starEach [a, b] X.env = (false, eval a X.env) :: starEach [b] X.env := by rfl) (he2 : starEach [b] X.env = (false, eval b X.env) :: starEach [] X.env := by rfl) (hpl : (backTo pos (starEach [b] X.env)).any (·.1) = false := by rfl) :
    DE X (.Call (.Name "max" p) [a, b] [] pos) S (.dat (.int (if j > i then j else i))) S2 :=
  de_callB (call_max2 hc) hm PyProof.Rows.boot_max (da_cons ha (da_cons hb da_nil he2) he) (fun F G α σ H vs Q R hv k => by
    obtain ⟨v, r, rfl, h1, v2, r2, rfl, h2, h3⟩ := hv
    have e : r2 = [] := h3
    subst e
    exact ⟨i, j, by rw [of_int h1, of_int h2], k _ G α H .refl .refl R (.int _)⟩) hg (by decide) (by decide) he hpl
theorem de_min2 {p : Pos} {i j : Int} (hc : X.calm = true) (hm : X.mg "min" = none) (ha : DE X a S (.dat (.int i)) S1) (hb : DE X b S1 (.dat (.int j)) S2) (hg : Gl X "min" := by rfl)
    (he : starEach [a, b] X.env = (false, eval a X.env) :: starEach [b] X.env := by rfl) (he2 : starEach [b] X.env = (false, eval b X.env) :: starEach [] X.env := by rfl) (hpl : (backTo pos (starEach [b] X.env)).any (·.1) = false := by rfl) :
    DE X (.Call (.Name "min" p) [a, b] [] pos) S (.dat (.int (if j < i then j else i))) S2 :=
  de_callB (call_min2 hc) hm PyProof.Rows.boot_min (da_cons ha (da_cons hb da_nil he2) he) (fun F G α σ H vs Q R hv k => by
    obtain ⟨v, r, rfl, h1, v2, r2, rfl, h2, h3⟩ := hv
    have e : r2 = [] := h3
    subst e
    exact ⟨i, j, by rw [of_int h1, of_int h2], k _ G α H .refl .refl R (.int _)⟩) hg (by decide) (by decide) he hpl
theorem de_divmod {p : Pos} {i j : Int} (hm : X.mg "divmod" = none) (ha : DE X a S (.dat (.int i)) S1) (hb : DE X b S1 (.dat (.int j)) S2) (hj : CDiv i j) (hg : Gl X "divmod" := by rfl)
    (he : starEach [a, b] X.env = (false, eval a X.env) :: starEach [b] X.env := by rfl) (he2 : starEach [b] X.env = (false, eval b X.env) :: starEach [] X.env := by rfl) (hpl : (backTo pos (starEach [b] X.env)).any (·.1) = false := by rfl) :
    DE X (.Call (.Name "divmod" p) [a, b] [] pos) S (.dat (.tup [.int (i / j), .int (i % j)])) S2 :=
  de_callB call_divmod hm PyProof.Rows.boot_divmod (da_cons ha (da_cons hb da_nil he2) he) (fun F G α σ H vs Q R hv k => by
    obtain ⟨v, r, rfl, h1, v2, r2, rfl, h2, h3⟩ := hv
    have e : r2 = [] := h3
    subst e
    refine ⟨i, j, by rw [of_int h1, of_int h2], hj, fun p hp => ?_⟩
    obtain ⟨G4, g4, R4, d4⟩ := R.madeT hp (ds := [.int (i / j), .int (i % j)]) (.cons (.int _) (.cons (.int _) .nil))
    exact k _ G4 α _ g4 .refl R4 d4) hg (by decide) (by decide) he hpl
theorem de_intI {p : Pos} {i : Int} (hm : X.mg "int" = none) (ha : DE X a S (.dat (.int i)) S1) (hg : Gl X "int" := by rfl) (he : starEach [a] X.env = (false, eval a X.env) :: starEach [] X.env := by rfl) : DE X (.Call (.Name "int" p) [a] [] pos) S (.dat (.int i)) S1 :=
  de_callTy call_int1 hm PyProof.Rows.boot_int (da_cons ha da_nil he) (fun F G α σ H vs Q R hv k => by
    obtain ⟨v, r, rfl, h1, h2⟩ := hv
    have e : r = [] := h2
    subst e
    exact .inl ⟨i, by rw [of_int h1], k _ G α H .refl .refl R (.int _)⟩) hg (by decide) (by decide) he
theorem de_intB {p : Pos} {i : Bool} (hm : X.mg "int" = none) (ha : DE X a S (.dat (.bl i)) S1) (hg : Gl X "int" := by rfl) (he : starEach [a] X.env = (false, eval a X.env) :: starEach [] X.env := by rfl) : DE X (.Call (.Name "int" p) [a] [] pos) S (.dat (.int (if i then 1 else 0))) S1 :=
  de_callTy call_int1 hm PyProof.Rows.boot_int (da_cons ha da_nil he) (fun F G α σ H vs Q R hv k => by
    obtain ⟨v, r, rfl, h1, h2⟩ := hv
    have e : r = [] := h2
    subst e
    exact .inr ⟨i, by rw [of_bl h1], k _ G α H .refl .refl R (.int _)⟩) hg (by decide) (by decide) he
theorem de_boolI {p : Pos} {i : Int} (hm : X.mg "bool" = none) (ha : DE X a S (.dat (.int i)) S1) (hg : Gl X "bool" := by rfl) (he : starEach [a] X.env = (false, eval a X.env) :: starEach [] X.env := by rfl) : DE X (.Call (.Name "bool" p) [a] [] pos) S (.dat (.bl (i != 0))) S1 :=
  de_callTy call_bool1 hm PyProof.Rows.boot_bool (da_cons ha da_nil he) (fun F G α σ H vs Q R hv k => by
    obtain ⟨v, r, rfl, h1, h2⟩ := hv
    have e : r = [] := h2
    subst e
    exact .inl ⟨i, by rw [of_int h1], k _ G α H .refl .refl R (.bl _)⟩) hg (by decide) (by decide) he
theorem de_listL {p : Pos} (hm : X.mg "list" = none) (ha : DE X a S u S1) (l : LU S1.m u ds) (hz : Made S1 (.lst ds) z S2) (hg : Gl X "list" := by rfl) (he : starEach [a] X.env = (false, eval a X.env) :: starEach [] X.env := by rfl) : DE X (.Call (.Name "list" p) [a] [] pos) S z S2 :=
  de_callTy call_list_of hm PyProof.Rows.boot_list (da_cons ha da_nil he) (fun F G α σ H vs Q R hv k => by
    obtain ⟨v, r, rfl, h1, h2⟩ := hv
    have e : r = [] := h2
    subst e
    obtain ⟨q, ws, rfl, h3, h4⟩ := l.real R h1
    refine ⟨q, ws, rfl, .inl (.of h3), fun p hp => ?_⟩
    obtain ⟨G4, α4, g4, a4, R4, u4⟩ := R.made hp (mo := .lst ds) ⟨_, rfl, h4⟩ hz
    exact k _ G4 α4 _ g4 a4 R4 u4) hg (by decide) (by decide) he
theorem de_listT {p : Pos} (hm : X.mg "list" = none) (ha : DE X a S (.dat (.tup ds)) S1) (hz : Made S1 (.lst ds) z S2) (hg : Gl X "list" := by rfl) (he : starEach [a] X.env = (false, eval a X.env) :: starEach [] X.env := by rfl) : DE X (.Call (.Name "list" p) [a] [] pos) S z S2 :=
  de_callTy call_list_of hm PyProof.Rows.boot_list (da_cons ha da_nil he) (fun F G α σ H vs Q R hv k => by
    obtain ⟨v, r, rfl, h1, h2⟩ := hv
    have e : r = [] := h2
    subst e
    obtain ⟨q, ws, rfl, h3, h4⟩ := of_tup h1
    refine ⟨q, ws, rfl, .inr (.of (R.fG _ _ h3)), fun p hp => ?_⟩
    obtain ⟨G4, α4, g4, a4, R4, u4⟩ := R.made hp (mo := .lst ds) ⟨_, rfl, h4⟩ hz
    exact k _ G4 α4 _ g4 a4 R4 u4) hg (by decide) (by decide) he
theorem de_tupleL {p : Pos} (hm : X.mg "tuple" = none) (ha : DE X a S u S1) (l : LU S1.m u ds) (hg : Gl X "tuple" := by rfl) (he : starEach [a] X.env = (false, eval a X.env) :: starEach [] X.env := by rfl) : DE X (.Call (.Name "tuple" p) [a] [] pos) S (.dat (.tup ds)) S1 :=
  de_callTy call_tuple_of hm PyProof.Rows.boot_tuple (da_cons ha da_nil he) (fun F G α σ H vs Q R hv k => by
    obtain ⟨v, r, rfl, h1, h2⟩ := hv
    have e : r = [] := h2
    subst e
    obtain ⟨q, ws, rfl, h3, h4⟩ := l.real R h1
    refine ⟨q, ws, rfl, .inl ⟨.of h3, fun p hp => ?_⟩⟩
    obtain ⟨G4, g4, R4, d4⟩ := R.madeT hp h4
    exact k _ G4 α _ g4 .refl R4 d4) hg (by decide) (by decide) he
theorem de_tupleT {p : Pos} (hm : X.mg "tuple" = none) (ha : DE X a S (.dat (.tup ds)) S1) (hg : Gl X "tuple" := by rfl) (he : starEach [a] X.env = (false, eval a X.env) :: starEach [] X.env := by rfl) : DE X (.Call (.Name "tuple" p) [a] [] pos) S (.dat (.tup ds)) S1 :=
  de_callTy call_tuple_of hm PyProof.Rows.boot_tuple (da_cons ha da_nil he) (fun F G α σ H vs Q R hv k => by
    obtain ⟨v, r, rfl, h1, h2⟩ := hv
    have e : r = [] := h2
    subst e
    obtain ⟨q, ws, rfl, h3, h4⟩ := of_tup h1
    exact ⟨q, ws, rfl, .inr ⟨.of (R.fG _ _ h3), k _ G α H .refl .refl R h1⟩⟩) hg (by decide) (by decide) he
theorem dats_bls {K : PySem.W.Frag} {G : Hp} : ∀ {bs : List Bool} {vs : List V}, Dats K G (bs.map D.bl) vs → vs = bs.map V.bl
  | [], _, h => of_dats0 h
  | n :: ns, _, h => by
    obtain ⟨v, r, rfl, h1, h2⟩ := of_dats h
    rw [of_bl h1, dats_bls h2]
    rfl
theorem de_all {p : Pos} {bs : List Bool} (hc : X.calm = true) (hm : X.mg "all" = none) (ha : DE X a S u S1) (l : LU S1.m u (bs.map D.bl)) (hg : Gl X "all" := by rfl) (he : starEach [a] X.env = (false, eval a X.env) :: starEach [] X.env := by rfl) : DE X (.Call (.Name "all" p) [a] [] pos) S (.dat (.bl (bs.all _root_.id))) S1 :=
  de_callB (cr_all hc) hm PyProof.Rows.boot_all (da_cons ha da_nil he) (fun F G α σ H vs Q R hv k => by
    obtain ⟨v, r, rfl, h1, h2⟩ := hv
    have e : r = [] := h2
    subst e
    obtain ⟨q, ws, rfl, h3, h4⟩ := l.real R h1
    rw [dats_bls h4] at h3
    exact ⟨q, bs, rfl, .of h3, k _ G α H .refl .refl R (.bl _)⟩) hg (by decide) (by decide) he
end
end DL
/-! DF: what is walked, for, while, comprehensions over data. -/
namespace DL
open PySem PySem.Spec PyProof.Rows L2
/-! ### sources -/
/-- a walk over the items ds, while inv holds of the data's part of the heap -/
structure Src (K : PySem.W.Frag) (J : It) (ds : List D) (inv : Hp → Prop) : Prop where
  mono : ∀ {G G' : Hp}, Same G G' → inv G → inv G'
  go : ∀ {F G : Hp} {α : Nat → Addr} {S : DSt} {σ : L2.St} {H : Hp} {i : Nat} {d : D}, Rl K F G α S σ H → inv G → ds[i]? = some d →
    J.go i H ∧ ∀ x H', J.yld i H x H' → ∃ G', GX F G G' ∧ Rl K F G' α S σ H' ∧ Dat K G' d x
  stop : ∀ {F G : Hp} {α : Nat → Addr} {S : DSt} {σ : L2.St} {H : Hp}, Rl K F G α S σ H → inv G → J.stop ds.length H
def tDI (K : PySem.W.Frag) (S : DSt) (ds : List D) (S' : DSt) : TI := fun σ H R => ∃ F G α, Rl K F G α S σ H ∧ ∀ J inv G' α' H', GX F G G' → AX S S' α α' → Rl K F G' α' S' σ H' → Src K J ds inv → inv G' → R J H'
abbrev DI (X : Cx) (tg iter : Expr) (S : DSt) (ds : List D) (S' : DSt) : Prop := PI X tg iter (tDI X.K S ds S')
theorem PI.wk {X : Cx} {tg iter : Expr} {t t' : TI} (h : PI X tg iter t) (w : ∀ σ H R, t' σ H R → t σ H R) : PI X tg iter t' := ⟨fun pins s σ H R I q => h.run pins s σ H R I (w σ H R q)⟩
section
variable {K : PySem.W.Frag} {F G H : Hp} {α : Nat → Addr} {S : DSt} {σ : L2.St}
theorem src_lst {a : Addr} {vs : List V} {ds : List D} (h0 : Dats K G ds vs) : Src K (Itl K a) ds (fun G' => G' a = some (.lst vs) ∧ Dats K G' ds vs) where
  mono := fun e h => ⟨e _ _ h.1, h.2.mono e⟩
  go := fun R h e => by
    obtain ⟨v, e1, e2⟩ := h.2.get e
    exact ⟨⟨vs, v, .of (R.fG _ _ h.1), e1⟩, fun x H' ⟨q, y⟩ => by
      subst q
      have ex : some x = some v := (y vs (.of (R.fG _ _ h.1))).symm.trans e1
      cases ex
      exact ⟨_, .refl, R, e2⟩⟩
  stop := fun R h => ⟨vs, .of (R.fG _ _ h.1), by rw [h.2.len]; exact Nat.le_refl _⟩
theorem src_tup {a : Addr} {vs : List V} {ds : List D} (h0 : Dats K G ds vs) : Src K (Itt K a) ds (fun G' => G' a = some (.tup vs) ∧ Dats K G' ds vs) where
  mono := fun e h => ⟨e _ _ h.1, h.2.mono e⟩
  go := fun R h e => by
    obtain ⟨v, e1, e2⟩ := h.2.get e
    exact ⟨⟨vs, v, .of (R.fG _ _ h.1), e1⟩, fun x H' ⟨q, y⟩ => by
      subst q
      have ex : some x = some v := (y vs (.of (R.fG _ _ h.1))).symm.trans e1
      cases ex
      exact ⟨_, .refl, R, e2⟩⟩
  stop := fun R h => ⟨vs, .of (R.fG _ _ h.1), by rw [h.2.len]; exact Nat.le_refl _⟩
theorem src_rol {a : Addr} {vs : List V} {ds : List D} (h0 : Dats K G ds vs) : Src K (Itl K a) ds (fun G' => SqL K G' a vs ∧ Dats K G' ds vs) where
  mono := fun e h => ⟨e.seq h.1, h.2.mono e⟩
  go := fun R h e => by
    obtain ⟨v, e1, e2⟩ := h.2.get e
    exact ⟨⟨vs, v, R.fG.seq h.1, e1⟩, fun x H' ⟨q, y⟩ => by
      subst q
      have ex : some x = some v := (y vs (R.fG.seq h.1)).symm.trans e1
      cases ex
      exact ⟨_, .refl, R, e2⟩⟩
  stop := fun R h => ⟨vs, R.fG.seq h.1, by rw [h.2.len]; exact Nat.le_refl _⟩
def rngD (lo : Int) (n : Nat) : List D := (List.range n).map fun i => .int (lo + (i : Nat))
theorem rngD_at {lo : Int} {n i : Nat} {d : D} (h : (rngD lo n)[i]? = some d) : i < n ∧ d = .int (lo + (i : Nat)) := by
  unfold rngD at h
  rw [List.getElem?_map] at h
  by_cases hi : i < n
  · rw [List.getElem?_range hi] at h
    exact ⟨hi, (Option.some.inj h).symm⟩
  · rw [List.getElem?_eq_none (by simpa using hi)] at h
    cases h
theorem src_rng {lo : Int} {n : Nat} : Src K (Itr lo n) (rngD lo n) (fun _ => True) where
  mono := fun _ h => h
  go := fun R _ e => by
    obtain ⟨hi, rfl⟩ := rngD_at e
    exact ⟨hi, fun x H' ⟨q, y⟩ => by
      subst q y
      exact ⟨_, .refl, R, .int _⟩⟩
  stop := fun R _ => by
    unfold rngD
    rw [List.length_map, List.length_range]
    exact Nat.le_refl _
def enumFrom (i : Nat) : List D → List D
  | [] => []
  | d :: ds => .tup [.int (i : Nat), d] :: enumFrom (i + 1) ds
theorem enumFrom_at : ∀ {ds : List D} {k i : Nat} {d : D}, (enumFrom k ds)[i]? = some d → ∃ e, ds[i]? = some e ∧ d = .tup [.int ((k + i : Nat)), e]
  | [], _, _, _, h => by simp [enumFrom] at h
  | x :: ds, k, 0, d, h => by
    simp [enumFrom] at h
    exact ⟨x, rfl, h.symm⟩
  | x :: ds, k, i + 1, d, h => by
    simp only [enumFrom, List.getElem?_cons_succ] at h
    obtain ⟨e, e1, e2⟩ := enumFrom_at h
    refine ⟨e, by simpa using e1, ?_⟩
    rw [e2]
    have : k + 1 + i = k + (i + 1) := by omega
    rw [this]
theorem enumFrom_len : ∀ (ds : List D) (k : Nat), (enumFrom k ds).length = ds.length
  | [], _ => rfl
  | _ :: ds, k => by simp [enumFrom, enumFrom_len ds (k + 1)]
theorem src_enum {a : Addr} {vs : List V} {ds : List D} (h0 : Dats K G ds vs) : Src K (Ite K a) (enumFrom 0 ds) (fun G' => G' a = some (.lst vs) ∧ Dats K G' ds vs) where
  mono := fun e h => ⟨e _ _ h.1, h.2.mono e⟩
  go := fun {F G α S σ H i d} R h e => by
    obtain ⟨f, ef, rfl⟩ := enumFrom_at e
    obtain ⟨v, e1, e2⟩ := h.2.get ef
    refine ⟨⟨vs, v, .of (R.fG _ _ h.1), e1⟩, fun x H' y => ?_⟩
    obtain ⟨T, w, rfl, nT, rfl, y⟩ := y
    have ex : some w = some v := (y vs (.of (R.fG _ _ h.1))).symm.trans e1
    cases ex
    obtain ⟨G', g', R', d'⟩ := R.madeT nT (ds := [.int (i : Nat), f]) (.cons (.int _) (.cons e2 .nil))
    refine ⟨G', g', R', ?_⟩
    rw [Nat.zero_add]
    exact d'
  stop := fun R h => ⟨vs, .of (R.fG _ _ h.1), by rw [h.2.len, enumFrom_len]; exact Nat.le_refl _⟩
end
section
variable {X : Cx} {e a b tg : Expr} {S S1 S2 : DSt} {ds : List D} {pos : Pos}
theorem di_lst (h : DE X e S (.dat (.lst ds)) S1) : DI X tg e S ds S1 :=
  PI.wk (pi_list h) fun σ H Q ⟨F, G, α, R, k⟩ => ⟨F, G, α, R, fun v G1 α1 H1 g1 a1 R1 uv => by
    obtain ⟨p, vs, rfl, h1, h2⟩ := of_lst (show Dat X.K G1 (.lst ds) v from uv)
    exact ⟨p, rfl, ⟨vs, .of (R1.fG _ _ h1)⟩, k _ _ G1 α1 H1 g1 a1 R1 (src_lst h2) ⟨h1, h2⟩⟩⟩
theorem di_tup (h : DE X e S (.dat (.tup ds)) S1) : DI X tg e S ds S1 :=
  PI.wk (pi_tup h) fun σ H Q ⟨F, G, α, R, k⟩ => ⟨F, G, α, R, fun v G1 α1 H1 g1 a1 R1 uv => by
    obtain ⟨p, vs, rfl, h1, h2⟩ := of_tup (show Dat X.K G1 (.tup ds) v from uv)
    exact ⟨p, rfl, ⟨vs, .of (R1.fG _ _ h1)⟩, k _ _ G1 α1 H1 g1 a1 R1 (src_tup h2) ⟨h1, h2⟩⟩⟩
theorem di_range1 {n : Int} {p : Pos} (hm : X.mg "range" = none) (h : DE X a S (.dat (.int n)) S1) (hn : n ≤ 1000000) (hn0 : -1000000 ≤ n) (hg : Gl X "range" := by rfl)
    (he : starEach [a] X.env = (false, eval a X.env) :: starEach [] X.env := by rfl) (hs : starEach [a] X.env = [(false, eval a X.env)] := by rfl) : DI X tg (.Call (.Name "range" p) [a] [] pos) S (rngD 0 n.toNat) S1 :=
  PI.wk (pi_range1 hg hm (da_cons h da_nil he) hs) fun σ H Q ⟨F, G, α, R, k⟩ => ⟨F, G, α, R, fun vs G1 α1 H1 g1 a1 R1 uv => by
    obtain ⟨v, r, rfl, h1, h2⟩ := uv
    have e : r = [] := h2
    subst e
    exact ⟨n, by rw [of_int (show Dat X.K G1 (.int n) v from h1)], by omega, by omega, k _ _ G1 α1 H1 g1 a1 R1 src_rng trivial⟩⟩
theorem di_range2 {m n : Int} {p : Pos} (hm : X.mg "range" = none) (h : DE X a S (.dat (.int m)) S1) (hb : DE X b S1 (.dat (.int n)) S2) (h1 : -1000000 ≤ m ∧ m ≤ 1000000 ∧ -1000000 ≤ n ∧ n ≤ 1000000) (hg : Gl X "range" := by rfl)
    (he : starEach [a, b] X.env = (false, eval a X.env) :: starEach [b] X.env := by rfl) (he2 : starEach [b] X.env = (false, eval b X.env) :: starEach [] X.env := by rfl)
    (hs : starEach [a, b] X.env = [(false, eval a X.env), (false, eval b X.env)] := by rfl) (hs2 : starEach [b] X.env = [(false, eval b X.env)] := by rfl) : DI X tg (.Call (.Name "range" p) [a, b] [] pos) S (rngD m (n - m).toNat) S2 :=
  PI.wk (pi_range2 hg hm (da_cons h (da_cons hb da_nil he2) he) hs hs2) fun σ H Q ⟨F, G, α, R, k⟩ => ⟨F, G, α, R, fun vs G1 α1 H1 g1 a1 R1 uv => by
    obtain ⟨v, r, rfl, h2, v2, r2, rfl, h3, h4⟩ := uv
    have e : r2 = [] := h4
    subst e
    exact ⟨m, n, by rw [of_int (show Dat X.K G1 (.int m) v from h2), of_int (show Dat X.K G1 (.int n) v2 from h3)], by omega, k _ _ G1 α1 H1 g1 a1 R1 src_rng trivial⟩⟩
theorem di_enum {elts : List Expr} {kk : Nat} {p tpos : Pos} (hm : X.mg "enumerate" = none) (h : DE X a S (.dat (.lst ds)) S1) (hg : Gl X "enumerate" := by rfl)
    (he : starEach [a] X.env = (false, eval a X.env) :: starEach [] X.env := by rfl) (hs : starEach [a] X.env = [(false, eval a X.env)] := by rfl) : DI X (.Tuple elts kk tpos) (.Call (.Name "enumerate" p) [a] [] pos) S (enumFrom 0 ds) S1 :=
  PI.wk (pi_enum hg hm (da_cons h da_nil he) hs) fun σ H Q ⟨F, G, α, R, k⟩ => ⟨F, G, α, R, fun vs G1 α1 H1 g1 a1 R1 uv => by
    obtain ⟨v, r, rfl, h2, h3⟩ := uv
    have e : r = [] := h3
    subst e
    obtain ⟨p, ws, rfl, h4, h5⟩ := of_lst (show Dat X.K G1 (.lst ds) v from h2)
    exact ⟨p, ws, rfl, .of (R1.fG _ _ h4), k _ _ G1 α1 H1 g1 a1 R1 (src_enum h5) ⟨h4, h5⟩⟩⟩
end
/-! ### targets: a name, a tuple of names -/
inductive Tgt where
  | one (i : Nat)
  | tup (is : List Nat)
def setGs (S : DSt) : List Nat → List D → DSt
  | i :: is, d :: ds => setGs (setG S i (.dat d)) is ds
  | _, _ => S
def asg : Tgt → D → DSt → Option DSt
  | .one i, d, S => some (setG S i (.dat d))
  | .tup is, .tup ds, S => if ds.length = is.length then some (setGs S is ds) else none
  | _, _, _ => none
def gNames : List Nat → TGs
  | [] => gNil
  | i :: is => gCons (gName i) (gNames is)
def Tgt.rd (K : PySem.W.Frag) : Tgt → TG
  | .one i => gName i
  | .tup is => gTup K is.length (gNames is)
def setVs (σ : L2.St) : List Nat → List V → L2.St
  | i :: is, v :: vs => setVs (σ.set i (some v)) is vs
  | _, _ => σ
def TgOk (X : Cx) (tg : Expr) (T : Tgt) : Prop := PG X tg (T.rd X.K)
section
variable {K : PySem.W.Frag} {F G : Hp} {α : Nat → Addr} {S S1 : DSt} {σ : L2.St} {H : Hp}
theorem gNames_ok : ∀ {is : List Nat} {vs : List V} {σ : L2.St} {H : Hp} {Q : L2.St → Hp → Prop}, vs.length = is.length → Q (setVs σ is vs) H → gNames is vs σ H Q
  | [], vs, σ, H, Q, hl, q => ⟨List.eq_nil_of_length_eq_zero hl, by cases vs <;> exact q⟩
  | i :: is, [], _, _, _, hl, _ => by cases hl
  | i :: is, v :: vs, σ, H, Q, hl, q => ⟨v, vs, rfl, gNames_ok (Nat.succ.inj hl) q⟩
theorem Rl.slots : ∀ {is : List Nat} {ds : List D} {vs : List V}, Dats K G ds vs → ∀ {S : DSt} {σ : L2.St}, Rl K F G α S σ H → Rl K F G α (setGs S is ds) (setVs σ is vs) H
  | [], ds, vs, h, S, σ, R => by
    cases ds <;> cases vs <;> exact R
  | i :: is, [], vs, h, S, σ, R => by
    rw [of_dats0 h]
    exact R
  | i :: is, d :: ds, vs, h, S, σ, R => by
    obtain ⟨v, r, rfl, h1, h2⟩ := of_dats h
    exact Rl.slots h2 (R.slot (i := i) (u := .dat d) h1)
/-- what a target stores -/
theorem Tgt.ok {T : Tgt} {d : D} {v : V} (R : Rl K F G α S σ H) (h : Dat K G d v) (ha : asg T d S = some S1) {Q : L2.St → Hp → Prop}
    (q : ∀ σ', Rl K F G α S1 σ' H → (∃ is vs, (T = .one is ∧ σ' = σ.set is (some v)) ∨ ∃ js, T = .tup js ∧ σ' = setVs σ js vs) → Q σ' H) : T.rd K v σ H Q := by
  cases T with
  | one i =>
    have e : S1 = setG S i (.dat d) := (Option.some.inj ha).symm
    subst e
    exact q _ (R.slot (i := i) (u := .dat d) h) ⟨i, [], .inl ⟨rfl, rfl⟩⟩
  | tup is =>
    cases d with
    | tup ds =>
      simp only [asg] at ha
      split at ha
      · rename_i hl
        cases ha
        obtain ⟨a, vs, rfl, h1, h2⟩ := of_tup h
        have hl2 : vs.length = is.length := by rw [h2.len]; exact hl
        exact ⟨a, vs, rfl, .of (R.fG _ _ h1), hl2, gNames_ok hl2 (q _ (Rl.slots h2 R) ⟨0, vs, .inr ⟨is, rfl, rfl⟩⟩)⟩
      · cases ha
    | _ => cases ha
end
/-! ### for -/
inductive ForR (X : Cx) (T : Tgt) (body : List Stmt) : List D → DSt → Out → Prop
  | nil {S : DSt} : ForR X T body [] S (.nx S)
  | next {d : D} {ds : List D} {S S1 S2 : DSt} {out : Out} : asg T d S = some S1 → DSs X body S1 (.nx S2) → ForR X T body ds S2 out → ForR X T body (d :: ds) S out
  | cont {d : D} {ds : List D} {S S1 S2 : DSt} {out : Out} : asg T d S = some S1 → DSs X body S1 (.ct S2) → ForR X T body ds S2 out → ForR X T body (d :: ds) S out
  | brk {d : D} {ds : List D} {S S1 S2 : DSt} : asg T d S = some S1 → DSs X body S1 (.bk S2) → ForR X T body (d :: ds) S (.nx S2)
  | ret {d : D} {ds : List D} {S S1 S2 : DSt} {u : U} : asg T d S = some S1 → DSs X body S1 (.rt u S2) → ForR X T body (d :: ds) S (.rt u S2)
/-- behind a turn the state is known to hold less -/
theorem ForR.next' {X : Cx} {T : Tgt} {body : List Stmt} {d : D} {ds : List D} {S S1 S2 S3 : DSt} {out : Out} (h1 : asg T d S = some S1) (h2 : DSs X body S1 (.nx S2)) (f : Fz X.K S2 S3) (h3 : ForR X T body ds S3 out) : ForR X T body (d :: ds) S out :=
  .next h1 (PSs.wk h2 fun E σ H ⟨F, G, α, R, k⟩ => ⟨F, G, α, R, fun G1 α1 σ1 H1 g e R1 => by
    obtain ⟨G2, α2, g2, e2, R2⟩ := f F G1 α1 σ1 H1 R1
    exact k G2 α2 σ1 H1 (g.trans g2) (e2.trans e) R2⟩) h3
def anyS (X : Cx) (sts : List Stmt) : TS := fun E σ H => ∃ t, PSs X sts t ∧ t E σ H
theorem pss_any {X : Cx} {sts : List Stmt} : PSs X sts (anyS X sts) := ⟨fun pins s σ H E I ⟨t, h, q⟩ => h.run pins s σ H E I q⟩
def anyT (X : Cx) (c : Expr) : TT := fun σ H Q => ∃ t, PT X c t ∧ t σ H Q
theorem pt_any {X : Cx} {c : Expr} : PT X c (anyT X c) := ⟨fun pins s σ H E I ⟨t, h, q⟩ => h.run pins s σ H E I q⟩
section
variable {X : Cx} {e a b tg iter : Expr} {S S1 S2 : DSt} {ds : List D} {pos : Pos} {T : Tgt} {body : List Stmt} {out : Out}
theorem for_run {K : PySem.W.Frag} {F G : Hp} {α : Nat → Addr} {σ : L2.St} {H : Hp} {J : It} {inv : Hp → Prop} {E : Ends} (hK : X.K = K) (R : Rl K F G α S σ H) (s : Src K J ds inv) (i0 : inv G) (f : ForR X T body ds S out) (k : OutK K F G α E out) :
    ∃ W : Nat → Nat → L2.St → Hp → Prop, (∃ m, W 0 m σ H) ∧ ∀ i m σ H, W i m σ H →
      (J.stop i H ∧ E.nx σ H) ∨ (J.go i H ∧ ∃ N : L2.St → Hp → Prop, (∀ σ' H', N σ' H' → ∃ m', m' < m ∧ W (i + 1) m' σ' H') ∧ ∀ x H', J.yld i H x H' → T.rd K x σ H' fun σ2 H2 => anyS X body { E with nx := N, ct := N, bk := E.nx } σ2 H2) := by
  subst hK
  refine ⟨fun i m σ H => m = ds.length - i ∧ i ≤ ds.length ∧ ∃ G' α' S', GX F G G' ∧ α' 0 = α 0 ∧ Rl X.K F G' α' S' σ H ∧ inv G' ∧ ForR X T body (ds.drop i) S' out, ⟨_, rfl, Nat.zero_le _, G, α, S, .refl, rfl, R, i0, f⟩, ?_⟩
  rintro i m σ H ⟨rfl, hi, G', α', S', g, e0, R', iv, fr⟩
  by_cases hlt : i < ds.length
  · have hd : ds.drop i = ds[i] :: ds.drop (i + 1) := List.drop_eq_getElem_cons hlt
    obtain ⟨go, yl⟩ := s.go R' iv (List.getElem?_eq_getElem hlt)
    refine .inr ⟨go, fun σ' H' => ∃ G2 α2 S2, GX F G G2 ∧ α2 0 = α 0 ∧ Rl X.K F G2 α2 S2 σ' H' ∧ inv G2 ∧ ForR X T body (ds.drop (i + 1)) S2 out, fun σ' H' hN => ⟨ds.length - (i + 1), by omega, rfl, hlt, hN⟩, fun x H' y => ?_⟩
    obtain ⟨G2, g2, R2, hx⟩ := yl x H' y
    rw [hd] at fr
    cases fr with
    | next h1 h2 h3 =>
      refine Tgt.ok R2 hx h1 fun σ2 R3 _ => ⟨_, h2, F, G2, α', R3, fun G4 α4 σ4 H4 g4 e4 R4 => ⟨G4, α4, _, g.trans (g2.trans g4), e4.trans e0, R4, s.mono (g2.1.trans g4.1) iv, h3⟩⟩
    | cont h1 h2 h3 =>
      refine Tgt.ok R2 hx h1 fun σ2 R3 _ => ⟨_, h2, F, G2, α', R3, fun G4 α4 σ4 H4 g4 e4 R4 => ⟨G4, α4, _, g.trans (g2.trans g4), e4.trans e0, R4, s.mono (g2.1.trans g4.1) iv, h3⟩⟩
    | brk h1 h2 =>
      refine Tgt.ok R2 hx h1 fun σ2 R3 _ => ⟨_, h2, F, G2, α', R3, fun G4 α4 σ4 H4 g4 e4 R4 => k G4 α4 σ4 H4 (g.trans (g2.trans g4)) (e4.trans e0) R4⟩
    | ret h1 h2 =>
      refine Tgt.ok R2 hx h1 fun σ2 R3 _ => ⟨_, h2, F, G2, α', R3, fun v G4 α4 σ4 H4 g4 e4 R4 uv => k v G4 α4 σ4 H4 (g.trans (g2.trans g4)) (e4.trans e0) R4 uv⟩
  · have e : i = ds.length := by omega
    subst e
    have hd : ds.drop ds.length = [] := List.drop_length
    rw [hd] at fr
    cases fr with
    | nil => exact .inl ⟨s.stop R' iv, k G' α' σ H g e0 R'⟩
theorem ds_for (hc : X.calm = true) (hi : DI X tg iter S ds S1) (hg : TgOk X tg T) (f : ForR X T body ds S1 out) (hp : PassesOwn (model X.prog X.w) X.A X.env X.xe := by exact PassesOwn.never) (hs : ∀ x, foldedSetIterable iter X.env x = pure x := by intro _; rfl) : DS X (.For tg iter body [] pos) S out :=
  PS.wk (ps_for hp hc hi hg pss_any hs) fun E σ H ⟨F, G, α, R, k⟩ => ⟨F, G, α, R, fun J inv G1 α1 H1 g1 a1 R1 s i1 => for_run rfl R1 s i1 f (k.on g1 a1.1)⟩
/-! ### while -/
inductive WhileR (X : Cx) (c : Expr) (body : List Stmt) : Nat → DSt → Out → Prop
  | stop {n : Nat} {S S1 : DSt} : DT X c S false S1 → WhileR X c body n S (.nx S1)
  | next {n : Nat} {S S1 S2 : DSt} {out : Out} : DT X c S true S1 → DSs X body S1 (.nx S2) → WhileR X c body n S2 out → WhileR X c body (n + 1) S out
  | cont {n : Nat} {S S1 S2 : DSt} {out : Out} : DT X c S true S1 → DSs X body S1 (.ct S2) → WhileR X c body n S2 out → WhileR X c body (n + 1) S out
  | brk {n : Nat} {S S1 S2 : DSt} : DT X c S true S1 → DSs X body S1 (.bk S2) → WhileR X c body n S (.nx S2)
  | ret {n : Nat} {S S1 S2 : DSt} {u : U} : DT X c S true S1 → DSs X body S1 (.rt u S2) → WhileR X c body n S (.rt u S2)
theorem WhileR.next' {c : Expr} {n : Nat} {S S1 S2 S3 : DSt} {out : Out} (h1 : DT X c S true S1) (h2 : DSs X body S1 (.nx S2)) (f : Fz X.K S2 S3) (h3 : WhileR X c body n S3 out) : WhileR X c body (n + 1) S out :=
  .next h1 (PSs.wk h2 fun E σ H ⟨F, G, α, R, k⟩ => ⟨F, G, α, R, fun G1 α1 σ1 H1 g e R1 => by
    obtain ⟨G2, α2, g2, e2, R2⟩ := f F G1 α1 σ1 H1 R1
    exact k G2 α2 σ1 H1 (g.trans g2) (e2.trans e) R2⟩) h3
theorem ds_while {c : Expr} {n : Nat} (f : WhileR X c body n S out) (hp : PassesOwn (model X.prog X.w) X.A X.env X.xe := by exact PassesOwn.never) : DS X (.While c body [] pos) S out :=
  PS.wk (ps_while hp pt_any pss_any) fun E σ H ⟨F, G, α, R, k⟩ => by
    refine ⟨fun m σ H => ∃ G' α' S', GX F G G' ∧ α' 0 = α 0 ∧ Rl X.K F G' α' S' σ H ∧ WhileR X c body m S' out, ⟨n, G, α, S, .refl, rfl, R, f⟩, ?_⟩
    rintro m σ H ⟨G', α', S', g, e0, R', w⟩
    cases w with
    | stop h1 => exact ⟨_, h1, F, G', α', R', fun G2 α2 H2 g2 a2 R2 => iteF (k G2 α2 _ H2 (g.trans g2) (a2.1.trans e0) R2)⟩
    | next h1 h2 h3 =>
      exact ⟨_, h1, F, G', α', R', fun G2 α2 H2 g2 a2 R2 => iteT ⟨fun σ' H' => ∃ G' α' S', GX F G G' ∧ α' 0 = α 0 ∧ Rl X.K F G' α' S' σ' H' ∧ WhileR X c body _ S' out, fun σ' H' q => ⟨_, Nat.lt_succ_self _, q⟩,
        _, h2, F, G2, α2, R2, fun G3 α3 σ3 H3 g3 e3 R3 => ⟨G3, α3, _, g.trans (g2.trans g3), e3.trans (a2.1.trans e0), R3, h3⟩⟩⟩
    | cont h1 h2 h3 =>
      exact ⟨_, h1, F, G', α', R', fun G2 α2 H2 g2 a2 R2 => iteT ⟨fun σ' H' => ∃ G' α' S', GX F G G' ∧ α' 0 = α 0 ∧ Rl X.K F G' α' S' σ' H' ∧ WhileR X c body _ S' out, fun σ' H' q => ⟨_, Nat.lt_succ_self _, q⟩,
        _, h2, F, G2, α2, R2, fun G3 α3 σ3 H3 g3 e3 R3 => ⟨G3, α3, _, g.trans (g2.trans g3), e3.trans (a2.1.trans e0), R3, h3⟩⟩⟩
    | brk h1 h2 =>
      exact ⟨_, h1, F, G', α', R', fun G2 α2 H2 g2 a2 R2 => iteT ⟨fun _ _ => False, fun σ' H' q => q.elim,
        _, h2, F, G2, α2, R2, fun G3 α3 σ3 H3 g3 e3 R3 => k G3 α3 _ H3 (g.trans (g2.trans g3)) (e3.trans (a2.1.trans e0)) R3⟩⟩
    | ret h1 h2 =>
      exact ⟨_, h1, F, G', α', R', fun G2 α2 H2 g2 a2 R2 => iteT ⟨fun _ _ => False, fun σ' H' q => q.elim,
        _, h2, F, G2, α2, R2, fun v G3 α3 σ3 H3 g3 e3 R3 uv => k v G3 α3 _ H3 (g.trans (g2.trans g3)) (e3.trans (a2.1.trans e0)) R3 uv⟩⟩
end
end DL
/-! DG: list comprehensions over data. -/
namespace DL
open PySem PySem.Spec PyProof.Rows L2
/-! ### slots of a block -/
def wipeG (g : List (Option U)) : List Nat → List (Option U)
  | [] => g
  | v :: vs => (wipeG g vs).set v none
theorem wipeG_len (g : List (Option U)) : ∀ vs : List Nat, (wipeG g vs).length = g.length
  | [] => rfl
  | v :: vs => by
    show ((wipeG g vs).set v none).length = _
    rw [List.length_set, wipeG_len g vs]
theorem wipeG_some {g : List (Option U)} {i : Nat} {u : U} : ∀ {vs : List Nat}, (wipeG g vs)[i]? = some (some u) → g[i]? = some (some u) ∧ i ∉ vs
  | [], h => ⟨h, by simp⟩
  | v :: vs, h => by
    have h : ((wipeG g vs).set v none)[i]? = some (some u) := h
    by_cases e : v = i
    · subst e
      by_cases hl : v < (wipeG g vs).length
      · rw [List.getElem?_set_self hl] at h
        cases h
      · rw [List.getElem?_eq_none (by rw [List.length_set]; omega)] at h
        cases h
    · rw [List.getElem?_set_ne e] at h
      obtain ⟨h1, h2⟩ := wipeG_some h
      exact ⟨h1, by simp only [List.mem_cons, not_or]; exact ⟨fun z => e z.symm, h2⟩⟩
theorem wipe_in {σ : L2.St} {i : Nat} : ∀ {vs : List Nat}, i ∈ vs → i < σ.length → (wipe σ vs)[i]? = some none
  | [], h, _ => absurd h List.not_mem_nil
  | v :: vs, h, hl => by
    show ((wipe σ vs).set v none)[i]? = some none
    by_cases e : v = i
    · subst e
      exact List.getElem?_set_self (by rw [wipe_length]; exact hl)
    · rw [List.getElem?_set_ne e]
      rcases List.mem_cons.mp h with z | z
      · exact absurd z.symm e
      · exact wipe_in z hl
theorem wipe_at (σ : L2.St) (vs : List Nat) (i : Nat) : (wipe σ vs)[i]? = if i ∈ vs then (if i < σ.length then some none else none) else σ[i]? := by
  by_cases h : i ∈ vs
  · rw [if_pos h]
    by_cases hl : i < σ.length
    · rw [if_pos hl]
      exact wipe_in h hl
    · rw [if_neg hl]
      exact List.getElem?_eq_none (by rw [wipe_length]; omega)
  · rw [if_neg h]
    exact wipe_out h
theorem wipe_set {σ : L2.St} {vs : List Nat} {i : Nat} {x : Option V} (h : i ∈ vs) : wipe (σ.set i x) vs = wipe σ vs := by
  apply List.ext_getElem?
  intro j
  rw [wipe_at, wipe_at, List.length_set]
  by_cases hj : j ∈ vs
  · rw [if_pos hj, if_pos hj]
  · rw [if_neg hj, if_neg hj]
    exact List.getElem?_set_ne fun e => hj (by rw [← e]; exact h)
theorem wipe_wipe (σ : L2.St) (vs : List Nat) : wipe (wipe σ vs) vs = wipe σ vs := by
  apply List.ext_getElem?
  intro j
  rw [wipe_at, wipe_at, wipe_length]
  by_cases hj : j ∈ vs
  · rw [if_pos hj, if_pos hj]
  · rw [if_neg hj, if_neg hj]
theorem wipe_sets {vs : List Nat} : ∀ {is : List Nat} {ws : List V} {σ : L2.St}, (∀ i ∈ is, i ∈ vs) → wipe (setVs σ is ws) vs = wipe σ vs
  | [], ws, σ, _ => by cases ws <;> rfl
  | i :: is, [], σ, _ => rfl
  | i :: is, w :: ws, σ, h => by
    show wipe (setVs (σ.set i (some w)) is ws) vs = _
    rw [wipe_sets fun j hj => h j (List.mem_cons_of_mem _ hj), wipe_set (h i List.mem_cons_self)]
def Tgt.ins (vs : List Nat) : Tgt → Bool
  | .one i => vs.contains i
  | .tup is => is.all fun i => vs.contains i
def hid (H : Hp) (p : Addr) : Hp := fun a => if a = p then none else H a
theorem hid_same {H : Hp} {p : Addr} : hid H p p = none := by unfold hid; rw [if_pos rfl]
theorem hid_ne {H : Hp} {p a : Addr} (h : a ≠ p) : hid H p a = H a := by unfold hid; rw [if_neg h]
theorem hid_upd {H : Hp} {p : Addr} {o : HO} (h : H p = some o) : upd (hid H p) p o = H := by
  funext a
  by_cases e : a = p
  · rw [e, upd_same, h]
  · rw [upd_ne e, hid_ne e]
theorem GX.less {F F' G G' : Hp} (h : GX F' G G') (hf : ∀ a, F a ≠ none → F' a ≠ none) : GX F G G' := ⟨h.1, fun a o h1 h2 h3 => h.2 a o (hf a h1) h2 h3⟩
theorem upd_dom {F : Hp} {p : Addr} {o : HO} : ∀ a, F a ≠ none → upd F p o a ≠ none := fun a h => by
  by_cases e : a = p
  · rw [e, upd_same]
    exact fun z => nomatch z
  · rw [upd_ne e]
    exact h
section
variable {K : PySem.W.Frag} {F G : Hp} {α : Nat → Addr} {S S1 : DSt} {σ : L2.St} {H : Hp}
/-- one object more in the frame -/
theorem Rl.frame (R : Rl K F G α S σ H) {p : Addr} {o : HO} (h : H p = none) : Rl K (upd F p o) G α S σ (upd H p o) := by
  have ap := R.apart h
  refine ⟨same_both R.fF, same_into R.fG h, R.ln, R.sl, fun n mo hm => ?_, R.inj⟩
  obtain ⟨h1, h2, o', h3, h4⟩ := R.mu n mo hm
  have np := ap n ⟨mo, hm⟩
  exact ⟨by rw [upd_ne np]; exact h1, h2, o', by rw [upd_ne np]; exact h3, h4⟩
/-- the object in the frame is written -/
theorem Rl.reframe {p : Addr} {o o' : HO} (R : Rl K (upd F p o) G α S σ H) (g : G p = none) : Rl K (upd F p o') G α S σ (upd H p o') := by
  refine ⟨fun b x e => ?_, same_keep R.fG g, R.ln, R.sl, fun n mo hm => ?_, R.inj⟩
  · by_cases hb : b = p
    · rw [hb, upd_same] at e ⊢
      exact e
    · rw [upd_ne hb] at e ⊢
      exact R.fF b x (by rw [upd_ne hb]; exact e)
  · obtain ⟨h1, h2, o2, h3, h4⟩ := R.mu n mo hm
    have np : α n ≠ p := fun z => by
      rw [z, upd_same] at h1
      cases h1
    exact ⟨by rw [upd_ne np] at h1 ⊢; exact h1, h2, o2, by rw [upd_ne np]; exact h3, h4⟩
theorem Rl.unframe {p : Addr} {o : HO} (R : Rl K (upd F p o) G α S σ H) (f : F p = none) (g : G p = none) : Rl K F G α S σ (hid H p) := by
  refine ⟨fun b x e => ?_, fun b x e => ?_, R.ln, R.sl, fun n mo hm => ?_, R.inj⟩
  · have hb : b ≠ p := ne_of_none e f
    rw [hid_ne hb]
    exact R.fF b x (by rw [upd_ne hb]; exact e)
  · have hb : b ≠ p := ne_of_none e g
    rw [hid_ne hb]
    exact R.fG b x e
  · obtain ⟨h1, h2, o2, h3, h4⟩ := R.mu n mo hm
    have np : α n ≠ p := fun z => by
      rw [z, upd_same] at h1
      cases h1
    exact ⟨by rw [upd_ne np] at h1; exact h1, h2, o2, by rw [hid_ne np]; exact h3, h4⟩
/-- the frame's list stays out of the data -/
theorem gx_out {G' : Hp} {p : Addr} {vs : List V} (g : GX (upd F p (.lst vs)) G G') (h : G p = none) (s : Same G' H) (hp : H p = some (.lst vs)) : G' p = none := by
  cases e : G' p with
  | none => rfl
  | some o =>
    obtain ⟨xs, rfl⟩ := g.2 p o (by rw [upd_same]; exact fun z => nomatch z) h e
    have := s p _ e
    rw [hp] at this
    cases this
theorem Rl.wiped (R : Rl K F G α S σ H) (vs : List Nat) : Rl K F G α ⟨wipeG S.g vs, S.m⟩ (wipe σ vs) H := by
  refine ⟨R.fF, R.fG, by rw [wipe_length]; show (wipeG S.g vs).length = _; rw [wipeG_len]; exact R.ln, fun i u hu => ?_, R.mu, R.inj⟩
  obtain ⟨h1, h2⟩ := wipeG_some hu
  obtain ⟨v, e, uv⟩ := R.sl i u h1
  exact ⟨v, by rw [wipe_out h2]; exact e, uv⟩
/-- the block's own slots are forgotten, the others are as they were -/
theorem Rl.back {G1 : Hp} {α1 : Nat → Addr} {S2 : DSt} {σ2 : L2.St} {H1 : Hp} {F1 : Hp} (R : Rl K F G α S σ H) (R2 : Rl K F1 G1 α1 S2 σ2 H1) (e : Same G G1) (a : ∀ n, Live S.m n → α1 n = α n ∧ Live S2.m n) : Rl K F1 G1 α1 ⟨S.g, S2.m⟩ σ H1 := by
  refine ⟨R2.fF, R2.fG, R.ln, fun i u hu => ?_, R2.mu, R2.inj⟩
  obtain ⟨v, e1, uv⟩ := R.sl i u hu
  exact ⟨v, e1, uv.on e a⟩
end
/-! ### [elt for target in iter if ..] -/
def BPE (X : Cx) (scope : Scope) (e : Expr) (t : TE) : Prop := ∀ (s : Shared) (H : Hp) (C : Addr) (cl : List (Str × Addr)) (fp : List Addr), PE (X.blk s H scope (compEnvC scope cl C X.env) fp) e t
def BPT (X : Cx) (scope : Scope) (ifs : List Expr) (t : TT) : Prop := ∀ (s : Shared) (H : Hp) (C : Addr) (cl : List (Str × Addr)) (fp : List Addr), PTs (X.blk s H scope (compEnvC scope cl C X.env) fp) ifs t
abbrev BE (X : Cx) (scope : Scope) (e : Expr) (S : DSt) (u : U) (S' : DSt) : Prop := BPE X scope e (tD X.K S u S')
abbrev BT (X : Cx) (scope : Scope) (ifs : List Expr) (S : DSt) (b : Bool) (S' : DSt) : Prop := BPT X scope ifs (tDT X.K S b S')
def anyB (X : Cx) (scope : Scope) (e : Expr) : TE := fun σ H Q => ∃ t, BPE X scope e t ∧ t σ H Q
def anyBT (X : Cx) (scope : Scope) (ifs : List Expr) : TT := fun σ H Q => ∃ t, BPT X scope ifs t ∧ t σ H Q
inductive LcR (X : Cx) (scope : Scope) (T : Tgt) (ifs : List Expr) (elt : Expr) (g : List (Option U)) : List D → List (Option MO) → List D → List (Option MO) → Prop
  | nil {m : List (Option MO)} : LcR X scope T ifs elt g [] m [] m
  | yes {d e : D} {ds es : List D} {m m' : List (Option MO)} {S1 S2 S3 : DSt} : asg T d ⟨g, m⟩ = some S1 → BT X scope ifs S1 true S2 → BE X scope elt S2 (.dat e) S3 → LcR X scope T ifs elt g ds S3.m es m' → LcR X scope T ifs elt g (d :: ds) m (e :: es) m'
  | no {d : D} {ds es : List D} {m m' : List (Option MO)} {S1 S2 : DSt} : asg T d ⟨g, m⟩ = some S1 → BT X scope ifs S1 false S2 → LcR X scope T ifs elt g ds S2.m es m' → LcR X scope T ifs elt g (d :: ds) m es m'
section
variable {X : Cx} {e a b tg iter elt : Expr} {S S1 S2 : DSt} {ds es : List D} {pos : Pos} {T : Tgt} {scope : Scope} {ifs : List Expr} {own : List (Str × Nat)} {z : U} {m' : List (Option MO)}
theorem bt_nil : BT X scope [] S true S := fun s H C cl fp => ⟨fun pins s σ H Q I ⟨F, G, α, R, k⟩ => pts_nil.run pins s σ H Q I (k G α H .refl .refl R)⟩
theorem bt_one {c : Expr} {k : Bool} (h : ∀ (s : Shared) (H : Hp) (C : Addr) (cl : List (Str × Addr)) (fp : List Addr), DT (X.blk s H scope (compEnvC scope cl C X.env) fp) c S k S1) : BT X scope [c] S k S1 := fun s H C cl fp => pts_one (h s H C cl fp)
theorem asg_m {d : D} {m : List (Option MO)} {g : List (Option U)} (h : asg T d ⟨g, m⟩ = some S1) : S1.m = m := by
  have sets : ∀ (is : List Nat) (ds : List D) (S : DSt), (setGs S is ds).m = S.m := by
    intro is
    induction is with
    | nil => intro ds S; cases ds <;> rfl
    | cons i is ih =>
      intro ds S
      cases ds with
      | nil => rfl
      | cons d ds => exact ih ds _
  cases T with
  | one i => cases h; rfl
  | tup is =>
    cases d with
    | tup ds =>
      simp only [asg] at h
      split at h
      · cases h
        exact sets _ _ _
      · cases h
    | _ => cases h
/-- the loop that fills the list at p, from what it holds already -/
theorem lc_loop {J : It} {inv : Hp → Prop} {F G : Hp} {α : Nat → Addr} {σ : L2.St} {H : Hp} {p : Addr} {acc0 : List V} {Fin : Hp → Prop} {vs : List Nat} (R : Rl X.K (upd F p (.lst acc0)) G α S σ H) (gp : G p = none) (s : Src X.K J ds inv) (i0 : inv G) (hT : T.ins vs = true)
    (f : LcR X scope T ifs elt (wipeG S.g vs) ds S.m es m') (hz : acc0.length + ds.length ≤ 10000000)
    (k : ∀ G' α' acc H', GX F G G' → AX S ⟨S.g, m'⟩ α α' → Rl X.K (upd F p (.lst (acc0 ++ acc))) G' α' ⟨S.g, m'⟩ σ H' → G' p = none → Dats X.K G' es acc → acc.length ≤ ds.length → Fin H') :
    ∃ W : Nat → Nat → Hp → Prop, (∃ m, W 0 m H) ∧ ∀ i m H, W i m H →
      (J.stop i H ∧ Fin H) ∨ (J.go i H ∧ ∃ Nx : Hp → Prop, (∀ H', Nx H' → ∃ m', m' < m ∧ W (i + 1) m' H') ∧ ∀ x H', J.yld i H x H' → T.rd X.K x (wipe σ vs) H' fun σ2 H2 => wipe σ2 vs = wipe σ vs ∧ anyBT X scope ifs σ2 H2 fun b H3 =>
        if b = true then anyB X scope elt σ2 H3 fun y H4 => ∃ acc, H4 p = some (.lst acc) ∧ acc.length < sizeLine ∧ Nx (upd H4 p (.lst (acc ++ [y]))) else Nx H3) := by
  refine ⟨fun i m H => m = ds.length - i ∧ i ≤ ds.length ∧ ∃ G' α' mi acc esd esr, GX F G G' ∧ AX S ⟨S.g, mi⟩ α α' ∧ Rl X.K (upd F p (.lst (acc0 ++ acc))) G' α' ⟨wipeG S.g vs, mi⟩ (wipe σ vs) H ∧ G' p = none ∧ Dats X.K G' esd acc ∧ inv G' ∧ es = esd ++ esr ∧
    LcR X scope T ifs elt (wipeG S.g vs) (ds.drop i) mi esr m' ∧ acc.length ≤ i, ⟨_, rfl, Nat.zero_le _, G, α, S.m, [], [], es, .refl, .refl, by rw [List.append_nil]; exact R.wiped vs, gp, .nil, i0, rfl, f, Nat.le_refl _⟩, ?_⟩
  rintro i m H1 ⟨rfl, hi, G', α', mi, acc, esd, esr, g, ax, R', gn, da, iv, ee, fr, la⟩
  by_cases hlt : i < ds.length
  · have hd : ds.drop i = ds[i] :: ds.drop (i + 1) := List.drop_eq_getElem_cons hlt
    obtain ⟨go, yl⟩ := s.go R' iv (List.getElem?_eq_getElem hlt)
    refine .inr ⟨go, fun H' => ∃ G' α' mi acc esd esr, GX F G G' ∧ AX S ⟨S.g, mi⟩ α α' ∧ Rl X.K (upd F p (.lst (acc0 ++ acc))) G' α' ⟨wipeG S.g vs, mi⟩ (wipe σ vs) H' ∧ G' p = none ∧ Dats X.K G' esd acc ∧ inv G' ∧ es = esd ++ esr ∧
      LcR X scope T ifs elt (wipeG S.g vs) (ds.drop (i + 1)) mi esr m' ∧ acc.length ≤ i + 1, fun H' hN => ⟨ds.length - (i + 1), by omega, rfl, hlt, hN⟩, fun x H' y => ?_⟩
    obtain ⟨G2, g2, R2, hx⟩ := yl x H' y
    have hwipe : ∀ σ', (∃ is vs', (T = .one is ∧ σ' = (wipe σ vs).set is (some vs')) ∨ ∃ js ws, T = .tup js ∧ σ' = setVs (wipe σ vs) js ws) → wipe σ' vs = wipe σ vs := by
      rintro σ' ⟨j, w, ⟨rfl, rfl⟩ | ⟨js, ws, rfl, rfl⟩⟩
      · have : j ∈ vs := List.contains_iff_mem.mp hT
        rw [wipe_set this, wipe_wipe]
      · have : ∀ i ∈ js, i ∈ vs := fun i hi => List.contains_iff_mem.mp (List.all_eq_true.mp hT i hi)
        rw [wipe_sets this, wipe_wipe]
    rw [hd] at fr
    cases fr with
    | yes h1 h2 h3 h4 =>
      rename_i e' es' S1' S2' S3'
      have m1 := asg_m h1
      refine Tgt.ok R2 hx h1 fun σ2 R3 hw => ⟨hwipe σ2 (by
        obtain ⟨is, ws, ⟨e1, e2⟩ | ⟨js, e1, e2⟩⟩ := hw
        · exact ⟨is, _, .inl ⟨e1, e2⟩⟩
        · exact ⟨is, .non, .inr ⟨js, ws, e1, e2⟩⟩), _, h2, _, G2, α', R3, fun G3 α3 H3 g3 a3 R4 => iteT ⟨_, h3, _, G3, α3, R4, fun w G4 α4 H4 g4 a4 R5 uw => ?_⟩⟩
      have hp4 : H4 p = some (.lst (acc0 ++ acc)) := R5.fF p _ upd_same
      have g24 : GX (upd F p (.lst (acc0 ++ acc))) G2 G4 := g3.trans g4
      have g14 : GX (upd F p (.lst (acc0 ++ acc))) G' G4 := g2.trans g24
      have n4 : G4 p = none := gx_out g14 gn R5.fG hp4
      have a14 : AX S ⟨S.g, S3'.m⟩ α α4 := ⟨a4.1.trans (a3.1.trans ax.1), fun n l => by
        obtain ⟨e1, l1⟩ := ax.2 n l
        have l1' : Live S1'.m n := by rw [m1]; exact l1
        obtain ⟨e2, l2⟩ := a3.2 n l1'
        obtain ⟨e3, l3⟩ := a4.2 n l2
        exact ⟨e3.trans (e2.trans e1), l3⟩⟩
      have hsz : (acc0 ++ acc).length < sizeLine := by rw [List.length_append, sizeLine_eq]; omega
      refine ⟨acc0 ++ acc, hp4, hsz, G4, α4, S3'.m, acc ++ [w], esd ++ [e'], es', g.trans (g14.less upd_dom), a14, ?_, n4, (da.mono g14.1).app (.cons uw .nil), s.mono g14.1 iv, by rw [ee]; simp, h4, by rw [List.length_append]; exact Nat.succ_le_succ la⟩
      have RB := Rl.back R' R5 g14.1 (fun n l => by
        have l1' : Live S1'.m n := by rw [m1]; exact l
        obtain ⟨e2, l2⟩ := a3.2 n l1'
        obtain ⟨e3, l3⟩ := a4.2 n l2
        exact ⟨e3.trans e2, l3⟩)
      rw [← List.append_assoc]
      exact RB.reframe n4
    | no h1 h2 h4 =>
      rename_i S1' S2'
      have m1 := asg_m h1
      refine Tgt.ok R2 hx h1 fun σ2 R3 hw => ⟨hwipe σ2 (by
        obtain ⟨is, ws, ⟨e1, e2⟩ | ⟨js, e1, e2⟩⟩ := hw
        · exact ⟨is, _, .inl ⟨e1, e2⟩⟩
        · exact ⟨is, .non, .inr ⟨js, ws, e1, e2⟩⟩), _, h2, _, G2, α', R3, fun G3 α3 H3 g3 a3 R4 => iteF ?_⟩
      have hp3 : H3 p = some (.lst (acc0 ++ acc)) := R4.fF p _ upd_same
      have g13 : GX (upd F p (.lst (acc0 ++ acc))) G' G3 := g2.trans g3
      have n3 : G3 p = none := gx_out g13 gn R4.fG hp3
      have a13 : AX S ⟨S.g, S2'.m⟩ α α3 := ⟨a3.1.trans ax.1, fun n l => by
        obtain ⟨e1, l1⟩ := ax.2 n l
        have l1' : Live S1'.m n := by rw [m1]; exact l1
        obtain ⟨e2, l2⟩ := a3.2 n l1'
        exact ⟨e2.trans e1, l2⟩⟩
      refine ⟨G3, α3, S2'.m, acc, esd, esr, g.trans (g13.less upd_dom), a13, ?_, n3, da.mono g13.1, s.mono g13.1 iv, ee, h4, Nat.le_succ_of_le la⟩
      exact Rl.back R' R4 g13.1 (fun n l => by
        have l1' : Live S1'.m n := by rw [m1]; exact l
        exact a3.2 n l1')
  · have ei : i = ds.length := by omega
    subst ei
    have hd : ds.drop ds.length = [] := List.drop_length
    rw [hd] at fr
    cases fr with
    | nil =>
      rw [List.append_nil] at ee
      subst ee
      exact .inl ⟨s.stop R' iv, k G' α' acc H1 g ax (Rl.back R R' g.1 ax.2) gn da la⟩
theorem lc_fin {F G : Hp} {α : Nat → Addr} {σ : L2.St} {Q : VK} {p : Addr} {acc : List V} {G' : Hp} {α' : Nat → Addr} {H1 : Hp} {m1 : List (Option MO)} (fp : F p = none) (g : GX F G G') (ax : AX S ⟨S.g, m1⟩ α α') (RB : Rl X.K (upd F p (.lst acc)) G' α' ⟨S.g, m1⟩ σ H1) (gn : G' p = none) (da : Dats X.K G' es acc)
    (hm : Made ⟨S.g, m1⟩ (.lst es) z S2) (k : ∀ v G' α' H', GX F G G' → AX S S2 α α' → Rl X.K F G' α' S2 σ H' → UV X.K G' α' S2.m z v → Q v H') : Q (.ref p) H1 := by
  have hp1 : H1 p = some (.lst acc) := RB.fF p _ upd_same
  have RU := RB.unframe fp gn
  obtain ⟨G4, α4, g4, a4, R4, u4⟩ := RU.made hid_same (mo := .lst es) ⟨acc, rfl, da⟩ hm
  rw [hid_upd hp1] at R4
  exact k _ G4 α4 H1 (g.trans g4) (ax.trans a4) R4 u4
theorem lc_run {J : It} {inv : Hp → Prop} {F G : Hp} {α : Nat → Addr} {σ : L2.St} {H : Hp} {Q : VK} {vs : List Nat} (R : Rl X.K F G α S σ H) (s : Src X.K J ds inv) (i0 : inv G) (hT : T.ins vs = true)
    (f : LcR X scope T ifs elt (wipeG S.g vs) ds S.m es m') (hm : Made ⟨S.g, m'⟩ (.lst es) z S2) (hz : ds.length ≤ 1000000)
    (k : ∀ v G' α' H', GX F G G' → AX S S2 α α' → Rl X.K F G' α' S2 σ H' → UV X.K G' α' S2.m z v → Q v H') :
    ∀ D, H D = none → ∃ W : Nat → Nat → Hp → Prop, (∃ m, W 0 m (upd H D (.lst []))) ∧ ∀ i m H, W i m H →
      (J.stop i H ∧ Q (.ref D) H) ∨ (J.go i H ∧ ∃ Nx : Hp → Prop, (∀ H', Nx H' → ∃ m', m' < m ∧ W (i + 1) m' H') ∧ ∀ x H', J.yld i H x H' → T.rd X.K x (wipe σ vs) H' fun σ2 H2 => wipe σ2 vs = wipe σ vs ∧ anyBT X scope ifs σ2 H2 fun b H3 =>
        if b = true then anyB X scope elt σ2 H3 fun y H4 => ∃ acc, H4 D = some (.lst acc) ∧ acc.length < sizeLine ∧ Nx (upd H4 D (.lst (acc ++ [y]))) else Nx H3) := by
  intro p hp
  have fp : F p = none := R.fF.free hp
  have gp : G p = none := R.fG.free hp
  refine lc_loop (acc0 := []) (R.frame hp) gp s i0 hT f (by rw [List.length_nil]; omega) fun G' α' acc H1 g ax RB gn da la => ?_
  rw [List.nil_append] at RB
  exact lc_fin fp g ax RB gn da hm k
theorem de_lc (hc : X.calm = true) (hN : X.N.Nodup) (hi : DI X tg iter S ds S1) (ok : BlkOk X.N X.env.scope scope own) (hT : T.ins (own.map (·.2)) = true)
    (hg : ∀ (s : Shared) (H : Hp) (C : Addr) (cl : List (Str × Addr)) (fp : List Addr), TgOk (X.blk s H scope (compEnvC scope cl C X.env) fp) tg T)
    (f : LcR X scope T ifs elt (wipeG S1.g (own.map (·.2))) ds S1.m es m') (hm : Made ⟨S1.g, m'⟩ (.lst es) z S2) (hz : ds.length ≤ 1000000) (hs : ∀ x, foldedSetIterable iter X.env x = pure x := by intro _; rfl) :
    DE X (.ListComp elt [⟨tg, iter, ifs, 0⟩] scope pos) S z S2 :=
  PE.wk (pe_lc (g := T.rd X.K) (te := anyB X scope elt) (tt := anyBT X scope ifs) hc hN hi ok hg (fun s H C cl fp => ⟨fun pins s' σ H' Q I ⟨t, h, q⟩ => (h s H C cl fp).run pins s' σ H' Q I q⟩) (fun s H C cl fp => ⟨fun pins s' σ H' Q I ⟨t, h, q⟩ => (h s H C cl fp).run pins s' σ H' Q I q⟩) hs)
    fun σ H Q ⟨F, G, α, R, k⟩ => ⟨F, G, α, R, fun J inv G1 α1 H1 g1 a1 R1 s i1 => lc_run R1 s i1 hT f hm hz fun v G2 α2 H2 g2 a2 R2 uv => k v G2 α2 H2 (g1.trans g2) (a1.trans a2) R2 uv⟩
theorem ds_setLc {i : Nat} {y : Str} {py spos : Pos} (hc : X.calm = true) (hN : X.N.Nodup) (hi : DI X tg iter S ds S1) (ok : BlkOk X.N X.env.scope scope own) (hT : T.ins (own.map (·.2)) = true)
    (hg : ∀ (s : Shared) (H : Hp) (C : Addr) (cl : List (Str × Addr)) (fp : List Addr), TgOk (X.blk s H scope (compEnvC scope cl C X.env) fp) tg T)
    (f : LcR X scope T ifs elt (wipeG S1.g (own.map (·.2))) ds S1.m es m') (hm : Made ⟨S1.g, m'⟩ (.lst es) z S2) (hz : ds.length ≤ 1000000)
    (hsw : swapsWith (.ListComp elt [⟨tg, iter, ifs, 0⟩] scope pos) (some (.Name y py)) spos.line X.env = pure true) (hy : X.N[i]? = some y := by rfl) (hyl : X.env.scope.names.lookup y = some .local := by rfl) (hs : ∀ x, foldedSetIterable iter X.env x = pure x := by intro _; rfl) :
    DS X (.Assign [.Name y py] (.ListComp elt [⟨tg, iter, ifs, 0⟩] scope pos) spos) S (.nx (setG S2 i z)) :=
  PS.wk (ps_setLc (g := T.rd X.K) (te := anyB X scope elt) (tt := anyBT X scope ifs) hc hN hy hyl hsw hi ok hg (fun s H C cl fp => ⟨fun pins s' σ H' Q I ⟨t, h, q⟩ => (h s H C cl fp).run pins s' σ H' Q I q⟩) (fun s H C cl fp => ⟨fun pins s' σ H' Q I ⟨t, h, q⟩ => (h s H C cl fp).run pins s' σ H' Q I q⟩) hs)
    fun E σ H ⟨F, G, α, R, k⟩ => ⟨F, G, α, R, fun J inv G1 α1 H1 g1 a1 R1 s i1 => lc_run (Q := fun x H1 => gName i x σ H1 E.nx) R1 s i1 hT f hm hz fun v G2 α2 H2 g2 a2 R2 uv => k G2 α2 _ H2 (g1.trans g2) (a2.1.trans a1.1) (R2.slot uv)⟩
/-! ### two clauses -/
abbrev BDI (X : Cx) (scope : Scope) (tg iter : Expr) (S : DSt) (ds : List D) (S' : DSt) : Prop := ∀ (s : Shared) (H : Hp) (C : Addr) (cl : List (Str × Addr)) (fp : List Addr), PI (X.blk s H scope (compEnvC scope cl C X.env) fp) tg iter (tDI X.K S ds S')
def anyBI (X : Cx) (scope : Scope) (tg iter : Expr) : TI := fun σ H R => ∃ t, (∀ (s : Shared) (H : Hp) (C : Addr) (cl : List (Str × Addr)) (fp : List Addr), PI (X.blk s H scope (compEnvC scope cl C X.env) fp) tg iter t) ∧ t σ H R
inductive Lc2R (X : Cx) (scope : Scope) (T : Tgt) (ifs : List Expr) (tg1 iter1 : Expr) (T1 : Tgt) (ifs1 : List Expr) (elt : Expr) (vs1 : List Nat) (g : List (Option U)) : List D → List (Option MO) → List D → List (Option MO) → Prop
  | nil {m : List (Option MO)} : Lc2R X scope T ifs tg1 iter1 T1 ifs1 elt vs1 g [] m [] m
  | yes {d : D} {ds ds1 es1 es : List D} {m m1 m' : List (Option MO)} {S1 S2 S3 : DSt} : asg T d ⟨g, m⟩ = some S1 → BT X scope ifs S1 true S2 → BDI X scope tg1 iter1 S2 ds1 S3 → ds1.length ≤ 1000 → LcR X scope T1 ifs1 elt (wipeG S3.g vs1) ds1 S3.m es1 m1 →
      Lc2R X scope T ifs tg1 iter1 T1 ifs1 elt vs1 g ds m1 es m' → Lc2R X scope T ifs tg1 iter1 T1 ifs1 elt vs1 g (d :: ds) m (es1 ++ es) m'
  | no {d : D} {ds es : List D} {m m' : List (Option MO)} {S1 S2 : DSt} : asg T d ⟨g, m⟩ = some S1 → BT X scope ifs S1 false S2 → Lc2R X scope T ifs tg1 iter1 T1 ifs1 elt vs1 g ds S2.m es m' → Lc2R X scope T ifs tg1 iter1 T1 ifs1 elt vs1 g (d :: ds) m es m'
variable {tg1 iter1 : Expr} {T1 : Tgt} {ifs1 : List Expr} {vs1 : List Nat}
theorem lc2_run {J : It} {inv : Hp → Prop} {F G : Hp} {α : Nat → Addr} {σ : L2.St} {H : Hp} {Q : VK} {vs : List Nat} (R : Rl X.K F G α S σ H) (s : Src X.K J ds inv) (i0 : inv G) (hT : T.ins vs = true) (hT1 : T1.ins vs1 = true)
    (f : Lc2R X scope T ifs tg1 iter1 T1 ifs1 elt vs1 (wipeG S.g vs) ds S.m es m') (hm : Made ⟨S.g, m'⟩ (.lst es) z S2) (hz : ds.length ≤ 1000)
    (k : ∀ v G' α' H', GX F G G' → AX S S2 α α' → Rl X.K F G' α' S2 σ H' → UV X.K G' α' S2.m z v → Q v H') :
    ∀ D, H D = none → ∃ W : Nat → Nat → Hp → Prop, (∃ m, W 0 m (upd H D (.lst []))) ∧ ∀ i m H, W i m H →
      (J.stop i H ∧ Q (.ref D) H) ∨ (J.go i H ∧ ∃ Nx : Hp → Prop, (∀ H', Nx H' → ∃ m', m' < m ∧ W (i + 1) m' H') ∧ ∀ x H', J.yld i H x H' → T.rd X.K x (wipe σ vs) H' fun σ2 H2 => wipe σ2 vs = wipe σ vs ∧ anyBT X scope ifs σ2 H2 fun b H3 =>
        if b = true then anyBI X scope tg1 iter1 σ2 H3 fun J1 H4 => ∃ W1 : Nat → Nat → Hp → Prop, (∃ m, W1 0 m H4) ∧ ∀ j k H, W1 j k H →
          (J1.stop j H ∧ Nx H) ∨ (J1.go j H ∧ ∃ Nx1 : Hp → Prop, (∀ H', Nx1 H' → ∃ k', k' < k ∧ W1 (j + 1) k' H') ∧ ∀ x H', J1.yld j H x H' → T1.rd X.K x (wipe σ2 vs1) H' fun σ3 H5 => wipe σ3 vs1 = wipe σ2 vs1 ∧ anyBT X scope ifs1 σ3 H5 fun b H6 =>
            if b = true then anyB X scope elt σ3 H6 fun y H7 => ∃ acc, H7 D = some (.lst acc) ∧ acc.length < sizeLine ∧ Nx1 (upd H7 D (.lst (acc ++ [y]))) else Nx1 H6)
        else Nx H3) := by
  intro p hp
  have fp : F p = none := R.fF.free hp
  have gp : G p = none := R.fG.free hp
  refine ⟨fun i m H => m = ds.length - i ∧ i ≤ ds.length ∧ ∃ G' α' mi acc esd esr, GX F G G' ∧ AX S ⟨S.g, mi⟩ α α' ∧ Rl X.K (upd F p (.lst acc)) G' α' ⟨wipeG S.g vs, mi⟩ (wipe σ vs) H ∧ G' p = none ∧ Dats X.K G' esd acc ∧ inv G' ∧ es = esd ++ esr ∧
    Lc2R X scope T ifs tg1 iter1 T1 ifs1 elt vs1 (wipeG S.g vs) (ds.drop i) mi esr m' ∧ acc.length ≤ 1000 * i, ⟨_, rfl, Nat.zero_le _, G, α, S.m, [], [], es, .refl, .refl, (R.frame hp).wiped vs, gp, .nil, i0, rfl, f, Nat.le_refl _⟩, ?_⟩
  rintro i m H1 ⟨rfl, hi, G', α', mi, acc, esd, esr, g, ax, R', gn, da, iv, ee, fr, la⟩
  by_cases hlt : i < ds.length
  · have hd : ds.drop i = ds[i] :: ds.drop (i + 1) := List.drop_eq_getElem_cons hlt
    obtain ⟨go, yl⟩ := s.go R' iv (List.getElem?_eq_getElem hlt)
    refine .inr ⟨go, fun H' => ∃ G' α' mi acc esd esr, GX F G G' ∧ AX S ⟨S.g, mi⟩ α α' ∧ Rl X.K (upd F p (.lst acc)) G' α' ⟨wipeG S.g vs, mi⟩ (wipe σ vs) H' ∧ G' p = none ∧ Dats X.K G' esd acc ∧ inv G' ∧ es = esd ++ esr ∧
      Lc2R X scope T ifs tg1 iter1 T1 ifs1 elt vs1 (wipeG S.g vs) (ds.drop (i + 1)) mi esr m' ∧ acc.length ≤ 1000 * (i + 1), fun H' hN => ⟨ds.length - (i + 1), by omega, rfl, hlt, hN⟩, fun x H' y => ?_⟩
    obtain ⟨G2, g2, R2, hx⟩ := yl x H' y
    have hwipe : ∀ σ', (∃ is vs', (T = .one is ∧ σ' = (wipe σ vs).set is (some vs')) ∨ ∃ js ws, T = .tup js ∧ σ' = setVs (wipe σ vs) js ws) → wipe σ' vs = wipe σ vs := by
      rintro σ' ⟨j, w, ⟨rfl, rfl⟩ | ⟨js, ws, rfl, rfl⟩⟩
      · have : j ∈ vs := List.contains_iff_mem.mp hT
        rw [wipe_set this, wipe_wipe]
      · have : ∀ i ∈ js, i ∈ vs := fun i hi => List.contains_iff_mem.mp (List.all_eq_true.mp hT i hi)
        rw [wipe_sets this, wipe_wipe]
    rw [hd] at fr
    cases fr with
    | yes h1 h2 h3 hl1 h4 h5 =>
      rename_i ds1 es1 es' m1 S1' S2' S3'
      have mm1 := asg_m h1
      refine Tgt.ok R2 hx h1 fun σ2 R3 hw => ⟨hwipe σ2 (by
        obtain ⟨is, ws, ⟨e1, e2⟩ | ⟨js, e1, e2⟩⟩ := hw
        · exact ⟨is, _, .inl ⟨e1, e2⟩⟩
        · exact ⟨is, .non, .inr ⟨js, ws, e1, e2⟩⟩), _, h2, _, G2, α', R3, fun G3 α3 H3 g3 a3 R4 => iteT ⟨_, h3, _, G3, α3, R4, fun J1 inv1 G4 α4 H4 g4 a4 R5 s1 iv1 => ?_⟩⟩
      have hp4 : H4 p = some (.lst acc) := R5.fF p _ upd_same
      have g14 : GX (upd F p (.lst acc)) G' G4 := g2.trans (g3.trans g4)
      have n4 : G4 p = none := gx_out g14 gn R5.fG hp4
      refine lc_loop (acc0 := acc) R5 n4 s1 iv1 hT1 h4 (by omega) fun G6 α6 acc' H6 g6 a6 R6 n6 da6 la6 => ?_
      have g16 : GX F G' G6 := (g14.less upd_dom).trans g6
      have aa : ∀ n, Live mi n → α6 n = α' n ∧ Live m1 n := fun n l => by
        have l1' : Live S1'.m n := by rw [mm1]; exact l
        obtain ⟨e2, l2⟩ := a3.2 n l1'
        obtain ⟨e3, l3⟩ := a4.2 n l2
        obtain ⟨e4, l4⟩ := a6.2 n l3
        exact ⟨e4.trans (e3.trans e2), l4⟩
      refine ⟨G6, α6, m1, acc ++ acc', esd ++ es1, es', g.trans g16, ⟨a6.1.trans (a4.1.trans (a3.1.trans ax.1)), fun n l => ?_⟩, Rl.back R' R6 g16.1 aa, n6, (da.mono g16.1).app da6, s.mono g16.1 iv, by rw [ee]; simp, h5, by rw [List.length_append]; omega⟩
      obtain ⟨e1, l1⟩ := ax.2 n l
      obtain ⟨e2, l2⟩ := aa n l1
      exact ⟨e2.trans e1, l2⟩
    | no h1 h2 h4 =>
      rename_i S1' S2'
      have m1 := asg_m h1
      refine Tgt.ok R2 hx h1 fun σ2 R3 hw => ⟨hwipe σ2 (by
        obtain ⟨is, ws, ⟨e1, e2⟩ | ⟨js, e1, e2⟩⟩ := hw
        · exact ⟨is, _, .inl ⟨e1, e2⟩⟩
        · exact ⟨is, .non, .inr ⟨js, ws, e1, e2⟩⟩), _, h2, _, G2, α', R3, fun G3 α3 H3 g3 a3 R4 => iteF ?_⟩
      have hp3 : H3 p = some (.lst acc) := R4.fF p _ upd_same
      have g13 : GX (upd F p (.lst acc)) G' G3 := g2.trans g3
      have n3 : G3 p = none := gx_out g13 gn R4.fG hp3
      have aa : ∀ n, Live mi n → α3 n = α' n ∧ Live S2'.m n := fun n l => by
        have l1' : Live S1'.m n := by rw [m1]; exact l
        exact a3.2 n l1'
      refine ⟨G3, α3, S2'.m, acc, esd, esr, g.trans (g13.less upd_dom), ⟨a3.1.trans ax.1, fun n l => ?_⟩, Rl.back R' R4 g13.1 aa, n3, da.mono g13.1, s.mono g13.1 iv, ee, h4, by omega⟩
      obtain ⟨e1, l1⟩ := ax.2 n l
      obtain ⟨e2, l2⟩ := aa n l1
      exact ⟨e2.trans e1, l2⟩
  · have ei : i = ds.length := by omega
    subst ei
    have hd : ds.drop ds.length = [] := List.drop_length
    rw [hd] at fr
    cases fr with
    | nil =>
      rw [List.append_nil] at ee
      subst ee
      exact .inl ⟨s.stop R' iv, lc_fin fp g ax (Rl.back R R' g.1 ax.2) gn da hm k⟩
theorem de_lc2 (hc : X.calm = true) (hN : X.N.Nodup) (hi : DI X tg iter S ds S1) (ok : BlkOk X.N X.env.scope scope own) (hv : ∀ i ∈ vs1, i ∈ own.map (·.2)) (hT : T.ins (own.map (·.2)) = true) (hT1 : T1.ins vs1 = true)
    (hg : ∀ (s : Shared) (H : Hp) (C : Addr) (cl : List (Str × Addr)) (fp : List Addr), TgOk (X.blk s H scope (compEnvC scope cl C X.env) fp) tg T) (hg1 : ∀ (s : Shared) (H : Hp) (C : Addr) (cl : List (Str × Addr)) (fp : List Addr), TgOk (X.blk s H scope (compEnvC scope cl C X.env) fp) tg1 T1)
    (f : Lc2R X scope T ifs tg1 iter1 T1 ifs1 elt vs1 (wipeG S1.g (own.map (·.2))) ds S1.m es m') (hm : Made ⟨S1.g, m'⟩ (.lst es) z S2) (hz : ds.length ≤ 1000) (hs : ∀ x, foldedSetIterable iter X.env x = pure x := by intro _; rfl) (hs1 : ∀ env x, foldedSetIterable iter1 env x = pure x := by intro _ _; rfl) :
    DE X (.ListComp elt [⟨tg, iter, ifs, 0⟩, ⟨tg1, iter1, ifs1, 0⟩] scope pos) S z S2 :=
  PE.wk (pe_lc2 (g := T.rd X.K) (g1 := T1.rd X.K) (te := anyB X scope elt) (tt := anyBT X scope ifs) (tt1 := anyBT X scope ifs1) (wi1 := anyBI X scope tg1 iter1) hc hN hi ok hv hg (fun s H C cl fp => ⟨fun pins s' σ H' Q I ⟨t, h, q⟩ => (h s H C cl fp).run pins s' σ H' Q I q⟩)
    (fun s H C cl fp => ⟨fun pins s' σ H' Q I ⟨t, h, q⟩ => (h s H C cl fp).run pins s' σ H' Q I q⟩) hg1 (fun s H C cl fp => ⟨fun pins s' σ H' Q I ⟨t, h, q⟩ => (h s H C cl fp).run pins s' σ H' Q I q⟩) (fun s H C cl fp => ⟨fun pins s' σ H' Q I ⟨t, h, q⟩ => (h s H C cl fp).run pins s' σ H' Q I q⟩) hs hs1)
    fun σ H Q ⟨F, G, α, R, k⟩ => ⟨F, G, α, R, fun J inv G1 α1 H1 g1 a1 R1 s i1 => lc2_run R1 s i1 hT hT1 f hm hz fun v G2 α2 H2 g2 a2 R2 uv => k v G2 α2 H2 (g1.trans g2) (a1.trans a2) R2 uv⟩
theorem ds_setLc2 {i : Nat} {y : Str} {py spos : Pos} (hc : X.calm = true) (hN : X.N.Nodup) (hi : DI X tg iter S ds S1) (ok : BlkOk X.N X.env.scope scope own) (hv : ∀ i ∈ vs1, i ∈ own.map (·.2)) (hT : T.ins (own.map (·.2)) = true) (hT1 : T1.ins vs1 = true)
    (hg : ∀ (s : Shared) (H : Hp) (C : Addr) (cl : List (Str × Addr)) (fp : List Addr), TgOk (X.blk s H scope (compEnvC scope cl C X.env) fp) tg T) (hg1 : ∀ (s : Shared) (H : Hp) (C : Addr) (cl : List (Str × Addr)) (fp : List Addr), TgOk (X.blk s H scope (compEnvC scope cl C X.env) fp) tg1 T1)
    (f : Lc2R X scope T ifs tg1 iter1 T1 ifs1 elt vs1 (wipeG S1.g (own.map (·.2))) ds S1.m es m') (hm : Made ⟨S1.g, m'⟩ (.lst es) z S2) (hz : ds.length ≤ 1000)
    (hsw : swapsWith (.ListComp elt [⟨tg, iter, ifs, 0⟩, ⟨tg1, iter1, ifs1, 0⟩] scope pos) (some (.Name y py)) spos.line X.env = pure true) (hy : X.N[i]? = some y := by rfl) (hyl : X.env.scope.names.lookup y = some .local := by rfl)
    (hs : ∀ x, foldedSetIterable iter X.env x = pure x := by intro _; rfl) (hs1 : ∀ env x, foldedSetIterable iter1 env x = pure x := by intro _ _; rfl) :
    DS X (.Assign [.Name y py] (.ListComp elt [⟨tg, iter, ifs, 0⟩, ⟨tg1, iter1, ifs1, 0⟩] scope pos) spos) S (.nx (setG S2 i z)) :=
  PS.wk (ps_setLc2 (g := T.rd X.K) (g1 := T1.rd X.K) (te := anyB X scope elt) (tt := anyBT X scope ifs) (tt1 := anyBT X scope ifs1) (wi1 := anyBI X scope tg1 iter1) hc hN hy hyl hsw hi ok hv hg (fun s H C cl fp => ⟨fun pins s' σ H' Q I ⟨t, h, q⟩ => (h s H C cl fp).run pins s' σ H' Q I q⟩)
    (fun s H C cl fp => ⟨fun pins s' σ H' Q I ⟨t, h, q⟩ => (h s H C cl fp).run pins s' σ H' Q I q⟩) hg1 (fun s H C cl fp => ⟨fun pins s' σ H' Q I ⟨t, h, q⟩ => (h s H C cl fp).run pins s' σ H' Q I q⟩) (fun s H C cl fp => ⟨fun pins s' σ H' Q I ⟨t, h, q⟩ => (h s H C cl fp).run pins s' σ H' Q I q⟩) hs hs1)
    fun E σ H ⟨F, G, α, R, k⟩ => ⟨F, G, α, R, fun J inv G1 α1 H1 g1 a1 R1 s i1 => lc2_run (Q := fun x H1 => gName i x σ H1 E.nx) R1 s i1 hT hT1 f hm hz fun v G2 α2 H2 g2 a2 R2 uv => k G2 α2 _ H2 (g1.trans g2) (a2.1.trans a1.1) (R2.slot uv)⟩
end
end DL
/-! DH: defs by what they make of data, with no repr under way. -/
namespace DL
open PySem PySem.Spec PyProof.Rows L2
abbrev SpV := List V → Hp → VK → Prop
/-- the def at f keeps sp, by k levels of calls, where no repr is under way; nothing is raised -/
structure FnG (P : Program) (w : World) (K : PySem.W.Frag) (mg : Str → Option Value) (base : Heap) (k : Nat) (f : Addr) (fd : FuncData) (ps : List Str) (sp : SpV) : Prop where
  len : ∀ vs H Q, sp vs H Q → vs.length = ps.length
  run : ∀ (A : Around) (outer : List Env) (s : Shared) (H : Hp) (args : Args) (us : List Value) (vs : List V) (Q : VK), Room k A → A.guards = some [] → Env0 P w K mg base A outer s H → BindsTo s fd args (ps.zip us) → Vals vs us → sp vs H Q →
    codeAny (model P w) A (.call (.ref f) args) (CR CX0 outer P w H s Q E0) s
section
variable {P : Program} {w : World} {K : PySem.W.Frag} {mg : Str → Option Value} {base : Heap} {k j : Nat} {f : Addr} {fd : FuncData} {ps N : List Str} {sp : SpV} {x qual : Str} {st : Stmt}
theorem FnG.mono (F : FnG P w K mg base j f fd ps sp) (h : j ≤ k) : FnG P w K mg base k f fd ps sp := ⟨F.len, fun A outer s H args us vs Q hr => F.run A outer s H args us vs Q (hr.mono h)⟩
/-- the context of the body of the def st, entered at s and H -/
abbrev BodyX (P : Program) (w : World) (K : PySem.W.Frag) (mg : Str → Option Value) (base : Heap) (N : List Str) (qual : Str) (st : Stmt) (f : Addr) (cd : Value) (A : Around) (outer : List Env) (s : Shared) (H : Hp) : Cx :=
  (cxOf CX0 P w K mg base N qual (defScope st) f cd A outer s H E0).nox
theorem deeper_guards (A : Around) (e : Env) : (A.deeper e).guards = A.guards := rfl
theorem fng_of (F : Fun K x qual st f fd) (S : FnScope N ps (defScope st)) (len : ∀ vs H Q, sp vs H Q → vs.length = ps.length)
    (hbody : ∀ (cdv : Value) (A : Around) (outer : List Env) (s : Shared) (H : Hp) (vs : List V) (Q : VK), Room k (A.deeper (envOfC qual (defScope st) s.heap.objs.size f cdv)) → A.guards = some [] → sp vs H Q →
      ∃ t, PSs (BodyX P w K mg base N qual st f cdv A outer s H) (defBody st) t ∧ t { nx := fun _ H' => Q .non H', rt := Q } (start N vs) H) : FnG P w K mg base (k + 1) f fd ps sp := by
  obtain ⟨oc, od, kV, doc, pm, an, cdv, ct, osl, rfl, lk, hcd⟩ := F.ex
  refine ⟨len, fun A outer s H args us vs Q hr hgd e0 hb r hsp => ?_⟩
  have hl := len _ _ _ hsp
  have old : ∀ b o, base.get? b = some o → s.heap.get? b = some o := fun b o e => (e0.bs b o e).1
  have lim : s.heap.NoLimit := e0.mod.nolimit.keeps old
  have kin : K.In s.heap := e0.mod.kin.keeps old
  have kinds : ∀ y ∈ ps.zip us, (defScope st).names.lookup y.1 = some .local ∨ ((defScope st).names.lookup y.1 = some .cell ∧ ((cellsFrom (s.heap.objs.size + 1) (defScope st).names []).lookup y.1).isSome = true) := by
    rintro ⟨n, v⟩ hy
    cases S.par n (List.of_mem_zip hy).1 with
    | inl q => exact .inl q
    | inr q => exact .inr ⟨q, PySem.W.cellsFrom_some _ _ _ (.inl q)⟩
  refine codeAny_call_function hr.depth (kin _ _ lk) rfl S.co S.gen rfl (PySem.W.codeRec_of kin hcd) (hb _ _ _ _ (wpAny_newFunctionEnv_cells S.kind kinds fun env he s1 xx => ?_))
  subst he
  obtain ⟨t, ht, hq⟩ := hbody cdv A outer s H vs Q (hr.deeper _) hgd hsp
  have J0 := inv_start (CX := CX0) (E := E0) (cd := cdv) S hr.hd e0 hl r xx
  refine ⟨lim.keeps xx.toInCall.keep, codeAny_func (wpAny_mono (ht.nox.run [] s1 (start N vs) H _ J0 hq) (fun fl s' hs => ?_) fun e s' hs => hs)⟩
  cases fl with
  | ret u =>
    obtain ⟨v, σ', H', J, rv, q⟩ := hs
    exact ⟨v, H', J.os, J.bare, J.base, J.hok, rv, q⟩
  | next =>
    obtain ⟨σ', H', J, q⟩ := hs
    exact ⟨V.non, H', J.os, J.bare, J.base, J.hok, rfl, q⟩
  | brk =>
    obtain ⟨_, _, _, q⟩ := hs
    exact q.elim
  | cont =>
    obtain ⟨_, _, _, q⟩ := hs
    exact q.elim
end
/-! ### calls by values -/
section
variable {X : Cx} {k : Nat} {f : Addr} {fd : FuncData} {ps : List Str} {sp : SpV}
theorem fng_run {A : Around} {pins : List (Addr × Obj)} {σ : L2.St} {H : Hp} {s : Shared} {Q : VK} {args : Args} {us : List Value} {vs : List V} {E : Value → Shared → Prop} (F : FnG X.prog X.w X.K X.mg X.base k f fd ps sp) (hr : Room k A) (hgd : A.guards = some []) (hf : A.frames = some X.stack)
    (I : Inv X pins σ H s) (hb : BindsTo s fd args (ps.zip us)) (r : Vals vs us) (h : sp vs H Q) : wpAny (model X.prog X.w) A (call (.ref f) args.pos args.kw) (EP X pins σ Q) E s := by
  have e := I.env0
  refine wpAny_call (codeAny_mono (F.run A X.stack s H args us vs Q hr hgd ⟨hf, e.mod, e.bs, e.bsz, e.funs, e.frf, e.hok, e.bare⟩ hb r h) fun res s' hq => ?_)
  cases res with
  | error er => exact False.elim hq
  | ok fl =>
    cases fl with
    | ret u => exact I.after hq
    | next => exact False.elim hq
    | brk => exact False.elim hq
    | cont => exact False.elim hq
end
structure RoomG (k : Nat) (A : Around) : Prop where
  rm : Room k A
  gd : A.guards = some []
theorem RoomG.mono {j k : Nat} {A : Around} (r : RoomG k A) (h : j ≤ k) : RoomG j A := ⟨r.rm.mono h, r.gd⟩
/-- a def of the module by its name -/
structure Cal (P : Program) (w : World) (K : PySem.W.Frag) (mg : Str → Option Value) (base : Heap) (k : Nat) (x : Str) (st : Stmt) (f : Addr) (fd : FuncData) (ps : List Str) (sp : SpV) : Prop where
  fn : Fun K x x st f fd
  mgf : mg x = some (.ref f)
  ok : FnG P w K mg base k f fd ps sp
  bi : Binds K fd ps []
def pick {β : Type} (ix : List Nat) (l : List β) : List β := ix.filterMap fun i => l[i]?
theorem vals_pick {vs : List V} {us : List Value} (r : Vals vs us) : ∀ ix : List Nat, Vals (pick ix vs) (pick ix us)
  | [] => .nil
  | i :: ix => by
    unfold pick
    rw [List.filterMap_cons, List.filterMap_cons]
    cases e : vs[i]? with
    | none =>
      rw [r.none_of e]
      exact vals_pick r ix
    | some v =>
      obtain ⟨u, e2, rv⟩ := r.get e
      rw [e2]
      exact .cons rv (vals_pick r ix)
def tCallG (sp : SpV) (t : TA) : TE := fun σ H Q => t σ H fun vs H1 => sp vs H1 Q
def tCallGK (sp : SpV) (ix : List Nat) (t : TA) : TE := fun σ H Q => t σ H fun vs H1 => sp (pick ix vs) H1 Q
section
variable {X : Cx} {k : Nat} {x : Str} {st : Stmt} {f : Addr} {fd : FuncData} {ps : List Str} {sp : SpV} {p pos : Pos} {e : Expr} {es : List Expr} {t : TA}
theorem pe_callG (C : Cal X.prog X.w X.K X.mg X.base k x st f fd ps sp) (hr : RoomG k X.A) (ha : PA X (e :: es) t) (hg : Gl X x := by rfl) (hdb : (x == ("__debug__" : Str)) = false := by decide)
    (he : starEach (e :: es) X.env = (false, eval e X.env) :: starEach es X.env := by rfl) (hpl : (backTo pos (starEach es X.env)).any (·.1) = false := by rfl) : PE X (.Call (.Name x p) (e :: es) [] pos) (tCallG sp t) := by
  refine ⟨fun pins s σ H Q I h => wpAny_Call_Name_kw (ld_glob I hg C.mgf ?_ hdb)⟩
  refine PySem.W.callWith_K (h₀ := X.base) I.ok.mod.kin C.fn.kp (thn (ha.run pos pins s σ H _ I h) fun us s1 ⟨vs, H1, I1, r, q⟩ => ⟨I1.kIn, ?_⟩) he hpl
  have hl : (us ++ []).length = ps.length := by rw [List.append_nil, ← r.length]; exact C.ok.len _ _ _ q
  have hb := C.bi s1 us I1.kIn hl
  rw [List.append_nil] at hb
  exact fng_run (args := ⟨us, []⟩) C.ok hr.rm hr.gd I1.ok.frames I1 hb r q
theorem pe_callGK {kws : List Keyword} {ks : List Str} {ix : List Nat} (C : Cal X.prog X.w X.K X.mg X.base k x st f fd ps sp) (hr : RoomG k X.A) (hkw : PK X kws t) (hix : ix.length = ps.length)
    (hb : ∀ (s : Shared) (ws : List Value), ws.length = ks.length → BindsTo s fd ⟨[], ks.zip ws⟩ (ps.zip (pick ix ws))) (hn : ∀ vs H Q, sp (pick ix vs) H Q → vs.length = ks.length) (hg : Gl X x := by rfl) (hdb : (x == ("__debug__" : Str)) = false := by decide)
    (hall : (backToKw pos (keywordEach kws X.env)).all (·.1.isSome) = true := by rfl) (hks : (backToKw pos (keywordEach kws X.env)).filterMap (·.1) = ks := by rfl)
    (hpl : ((backTo pos (starEach [] X.env)).any (·.1) || (backToKw pos (keywordEach kws X.env)).any (·.1.isNone)) = false := by rfl) : PE X (.Call (.Name x p) [] kws pos) (tCallGK sp ix t) := by
  refine ⟨fun pins s σ H Q I h => wpAny_Call_Name_kw (ld_glob I hg C.mgf ?_ hdb)⟩
  refine PySem.W.callWith_KW0 (h₀ := X.base) I.ok.mod.kin C.fn.kp hall (thn (hkw.run pos pins s σ H _ I h) fun ws s1 ⟨zs, H1, I1, r, q⟩ => ⟨I1.kIn, ?_⟩) hpl
  rw [hks]
  exact fng_run (args := ⟨[], ks.zip ws⟩) C.ok hr.rm hr.gd I1.ok.frames I1 (hb s1 ws (by rw [← r.length]; exact hn _ _ _ q)) (vals_pick r ix) q
end
/-! ### promises over data -/
inductive Res where
  | dat (d : D)
  | new (ds : List D)
def ResV (K : PySem.W.Frag) (G' H H' : Hp) : Res → V → Prop
  | .dat d, v => Dat K G' d v
  | .new ds, v => ∃ p vs, v = .ref p ∧ H p = none ∧ G' p = none ∧ H' p = some (.lst vs) ∧ Dats K G' ds vs
/-- nothing that stood is changed -/
def SpP (K : PySem.W.Frag) (R : List D → Res → Prop) : SpV := fun vs H Q => ∃ G ds r, Same G H ∧ Dats K G ds vs ∧ R ds r ∧ ∀ v G' H', Same H H' → GX H G G' → Same G' H' → ResV K G' H H' r v → Q v H'
/-- the first argument is a list of the caller's own, which is changed; nothing else is -/
def SpO (K : PySem.W.Frag) (R : List D → List D → Res → List D → Prop) : SpV := fun vs H Q => ∃ G o c ws vs' ds r c', vs = .ref o :: vs' ∧ H o = some (.lst ws) ∧ G o = none ∧ Dats K G c ws ∧ Same G H ∧ Dats K G ds vs' ∧ R c ds r c' ∧
  ∀ v G' H' ws', (∀ b x, b ≠ o → H b = some x → H' b = some x) → H' o = some (.lst ws') → Dats K G' c' ws' → GX (hid H o) G G' → Same G' H' → G' o = none → ResV K G' H H' r v → Q v H'
inductive MadeR (S : DSt) : Res → U → DSt → Prop
  | dat (d : D) : MadeR S (.dat d) (.dat d) S
  | new {ds : List D} {z : U} {S' : DSt} : Made S (.lst ds) z S' → MadeR S (.new ds) z S'
section
variable {K : PySem.W.Frag} {F G : Hp} {α : Nat → Addr} {S S2 : DSt} {σ : L2.St} {H : Hp} {z : U} {r : Res}
/-- behind a call that changes nothing that stood -/
theorem Rl.called (R : Rl K F G α S σ H) {G' H' : Hp} {v : V} (s : Same H H') (g : GX H G G') (sg : Same G' H') (hv : ResV K G' H H' r v) (hm : MadeR S r z S2) :
    ∃ G2 α2, GX F G G2 ∧ AX S S2 α α2 ∧ Rl K F G2 α2 S2 σ H' ∧ UV K G2 α2 S2.m z v := by
  have gF : GX F G G' := g.less fun a h e => by
    cases q : F a with
    | none => exact h q
    | some o =>
      rw [R.fF a o q] at e
      cases e
  have out : ∀ (n : Nat) (mo : MO), S.m[n]? = some (some mo) → G' (α n) = none ∧ ∃ o, H (α n) = some o ∧ H' (α n) = some o ∧ MV K G α S.m mo o := fun n mo hm => by
    obtain ⟨h1, h2, o, h3, h4⟩ := R.mu n mo hm
    have h5 := s _ _ h3
    refine ⟨?_, o, h3, h5, h4⟩
    cases q : G' (α n) with
    | none => rfl
    | some o' =>
      obtain ⟨xs, rfl⟩ := g.2 _ _ (by rw [h3]; exact fun z => nomatch z) h2 q
      have := sg _ _ q
      rw [h5] at this
      cases this
      cases mo with
      | lst ds => obtain ⟨vs, e, _⟩ := h4; cases e
      | dic t ks ds => cases t <;> (obtain ⟨kvs, e, _⟩ := h4; cases e)
      | lsu us => obtain ⟨vs, e, _⟩ := h4; cases e
      | ins C ns ds => obtain ⟨dx, vs, e, _⟩ := h4; cases e
  have R' : ∀ H0, Same F H0 → Same G' H0 → (∀ (n : Nat) (mo : MO), S.m[n]? = some (some mo) → H0 (α n) = H' (α n)) → Rl K F G' α S σ H0 := fun H0 s1 s2 s3 => by
    refine ⟨s1, s2, R.ln, fun i u hu => ?_, fun n mo hm => ?_, R.inj⟩
    · obtain ⟨w, e, uv⟩ := R.sl i u hu
      exact ⟨w, e, uv.on g.1 fun n l => ⟨rfl, l⟩⟩
    · obtain ⟨h1, _⟩ := R.mu n mo hm
      obtain ⟨h2, o, h3, h4, h5⟩ := out n mo hm
      exact ⟨h1, h2, o, by rw [s3 n mo hm]; exact h4, h5.on g.1 fun n l => ⟨rfl, l⟩⟩
  cases hm with
  | dat d => exact ⟨G', α, gF, .refl, R' H' (R.fF.trans s) sg fun _ _ _ => rfl, hv⟩
  | new hm =>
    obtain ⟨p, vs, rfl, h1, h2, h3, h4⟩ := hv
    have fp : F p = none := R.fF.free h1
    have R0 := R' (hid H' p) (fun b x e => by rw [hid_ne (ne_of_none e fp)]; exact s _ _ (R.fF _ _ e)) (fun b x e => by rw [hid_ne (ne_of_none e h2)]; exact sg _ _ e)
      fun n mo hm => hid_ne (R.apart h1 n ⟨mo, hm⟩)
    obtain ⟨G4, α4, g4, a4, R4, u4⟩ := R0.made hid_same (mo := .lst _) ⟨vs, rfl, h4⟩ hm
    rw [hid_upd h3] at R4
    exact ⟨G4, α4, gF.trans g4, a4, R4, u4⟩
theorem spP_run {R0 : List D → Res → Prop} {ds : List D} {vs : List V} {Q : VK} (R : Rl K F G α S σ H) (hd : Dats K G ds vs) (hR : R0 ds r) (hm : MadeR S r z S2)
    (k : ∀ v G' α' H', GX F G G' → AX S S2 α α' → Rl K F G' α' S2 σ H' → UV K G' α' S2.m z v → Q v H') : SpP K R0 vs H Q :=
  ⟨G, ds, r, R.fG, hd, hR, fun v G' H' s g sg hv => by
    obtain ⟨G2, α2, g2, a2, R2, u2⟩ := R.called s g sg hv hm
    exact k v G2 α2 H' g2 a2 R2 u2⟩
end
section
variable {X : Cx} {k : Nat} {x : Str} {st : Stmt} {f : Addr} {fd : FuncData} {ps : List Str} {p pos : Pos} {e : Expr} {es : List Expr} {S S1 S2 : DSt} {us : List U} {ds : List D} {z : U} {r : Res}
theorem de_callP {R0 : List D → Res → Prop} (C : Cal X.prog X.w X.K X.mg X.base k x st f fd ps (SpP X.K R0)) (hr : RoomG k X.A) (ha : DAr X (e :: es) S us S1) (hR : R0 ds r) (hm : MadeR S1 r z S2) (hu : AllD us ds := by repeat constructor) (hg : Gl X x := by rfl) (hdb : (x == ("__debug__" : Str)) = false := by decide)
    (he : starEach (e :: es) X.env = (false, eval e X.env) :: starEach es X.env := by rfl) (hpl : (backTo pos (starEach es X.env)).any (·.1) = false := by rfl) : DE X (.Call (.Name x p) (e :: es) [] pos) S z S2 :=
  PE.wk (pe_callG C hr ha hg hdb he hpl) fun σ H Q ⟨F, G, α, R, k⟩ => ⟨F, G, α, R, fun vs G1 α1 H1 g1 a1 R1 uv => spP_run R1 (hu.real uv) hR hm fun v G2 α2 H2 g2 a2 R2 u2 => k v G2 α2 H2 (g1.trans g2) (a1.trans a2) R2 u2⟩
abbrev DKw (X : Cx) (kws : List Keyword) (S : DSt) (us : List U) (S' : DSt) : Prop := PK X kws (tDA X.K S us S')
theorem PK.wk {kws : List Keyword} {t t' : TA} (h : PK X kws t) (w : ∀ σ H Q, t' σ H Q → t σ H Q) : PK X kws t' := ⟨fun pos pins s σ H Q I q => h.run pos pins s σ H Q I (w σ H Q q)⟩
theorem dk_nil : DKw X [] S [] S := PK.wk pk_nil fun σ H Q ⟨F, G, α, R, k⟩ => k [] G α H .refl .refl R rfl
theorem dk_cons {nm : Option Str} {kpos : Pos} {kws : List Keyword} {u : U} (ha : DE X e S u S1) (hr : DKw X kws S1 us S2) : DKw X (⟨nm, e, kpos⟩ :: kws) S (u :: us) S2 :=
  PK.wk (pk_cons ha hr) fun σ H Q ⟨F, G, α, R, k⟩ => ⟨F, G, α, R, fun v G1 α1 H1 g1 a1 R1 uv => ⟨F, G1, α1, R1, fun vs G2 α2 H2 g2 a2 R2 uvs =>
    k (v :: vs) G2 α2 H2 (g1.trans g2) (a1.trans a2) R2 ⟨v, vs, rfl, uv.on g2.1 a2.2, uvs⟩⟩⟩
theorem dats_pick {K : PySem.W.Frag} {G : Hp} {vs : List V} (h : Dats K G ds vs) : ∀ ix : List Nat, Dats K G (pick ix ds) (pick ix vs)
  | [] => .nil
  | i :: ix => by
    unfold pick
    rw [List.filterMap_cons, List.filterMap_cons]
    cases e : ds[i]? with
    | none =>
      have hl := List.getElem?_eq_none_iff.mp e
      have e2 : vs[i]? = none := List.getElem?_eq_none_iff.mpr (by rw [h.len]; exact hl)
      rw [e2]
      exact dats_pick h ix
    | some d =>
      obtain ⟨v, e2, hv⟩ := h.get e
      rw [e2]
      exact .cons hv (dats_pick h ix)
theorem de_callPK {R0 : List D → Res → Prop} {kws : List Keyword} {ks : List Str} {ix : List Nat} (C : Cal X.prog X.w X.K X.mg X.base k x st f fd ps (SpP X.K R0)) (hr : RoomG k X.A) (ha : DKw X kws S us S1) (hR : R0 (pick ix ds) r) (hm : MadeR S1 r z S2)
    (hb : ∀ (s : Shared) (ws : List Value), ws.length = ks.length → BindsTo s fd ⟨[], ks.zip ws⟩ (ps.zip (pick ix ws))) (hu : AllD us ds := by repeat constructor) (hix : ix.length = ps.length := by rfl) (hkn : kws.length = ks.length := by rfl) (hg : Gl X x := by rfl) (hdb : (x == ("__debug__" : Str)) = false := by decide)
    (hall : (backToKw pos (keywordEach kws X.env)).all (·.1.isSome) = true := by rfl) (hks : (backToKw pos (keywordEach kws X.env)).filterMap (·.1) = ks := by rfl)
    (hpl : ((backTo pos (starEach [] X.env)).any (·.1) || (backToKw pos (keywordEach kws X.env)).any (·.1.isNone)) = false := by rfl) (hev : ((backToKw pos (keywordEach kws X.env)).map (·.2)).length = ks.length := by rfl) (hul : us.length = ks.length := by rfl) : DE X (.Call (.Name x p) [] kws pos) S z S2 := by
  refine ⟨fun pins s σ H Q I ⟨F, G, α, R, k⟩ => wpAny_Call_Name_kw (ld_glob I hg C.mgf ?_ hdb)⟩
  refine PySem.W.callWith_KW0 (h₀ := X.base) I.ok.mod.kin C.fn.kp hall (thn (ha.run pos pins s σ H _ I ⟨F, G, α, R, fun vs G1 α1 H1 g1 a1 R1 uv => (show ∃ G1 α1, GX F G G1 ∧ AX S S1 α α1 ∧ Rl X.K F G1 α1 S1 σ H1 ∧ UVs X.K G1 α1 S1.m us vs from ⟨G1, α1, g1, a1, R1, uv⟩)⟩) fun ws s1 ⟨zs, H1, I1, rr, G1, α1, g1, a1, R1, uv⟩ => ⟨I1.kIn, ?_⟩) hpl
  rw [hks]
  exact fng_run (args := ⟨[], ks.zip ws⟩) C.ok hr.rm hr.gd I1.ok.frames I1 (hb s1 ws (by rw [← rr.length, uv.len]; exact hul)) (vals_pick rr ix)
    (spP_run R1 (dats_pick (hu.real uv) ix) hR hm fun v G2 α2 H2 g2 a2 R2 u2 => k v G2 α2 H2 (g1.trans g2) (a1.trans a2) R2 u2)
/-- the first argument is one's own list n -/
theorem de_callO {R0 : List D → List D → Res → List D → Prop} {n : Nat} {c c' : List D} (C : Cal X.prog X.w X.K X.mg X.base k x st f fd ps (SpO X.K R0)) (hr : RoomG k X.A) (ha : DAr X (e :: es) S (.own n :: us) S1) (hc : S1.m[n]? = some (some (.lst c))) (hR : R0 c ds r c')
    (hm : MadeR (setM S1 n (.lst c')) r z S2) (hu : AllD us ds := by repeat constructor) (hg : Gl X x := by rfl) (hdb : (x == ("__debug__" : Str)) = false := by decide)
    (he : starEach (e :: es) X.env = (false, eval e X.env) :: starEach es X.env := by rfl) (hpl : (backTo pos (starEach es X.env)).any (·.1) = false := by rfl) : DE X (.Call (.Name x p) (e :: es) [] pos) S z S2 :=
  PE.wk (pe_callG C hr ha hg hdb he hpl) fun σ H Q ⟨F, G, α, R, k⟩ => ⟨F, G, α, R, fun vs G1 α1 H1 g1 a1 R1 ⟨v0, vs', e0, h0, uv⟩ => by
    subst e0
    obtain ⟨e1, l1⟩ := h0
    obtain ⟨f1, g01, o, h3, ws, rfl, h4⟩ := R1.mu n _ hc
    refine ⟨G1, α1 n, c, ws, vs', ds, r, c', by rw [e1], h3, g01, h4, R1.fG, hu.real uv, hR, fun v G' H' ws' s hw dw g sg go hv => ?_⟩
    -- the own list as it is behind the call, all else as ahead
    have gx1 : GX (hid H1 (α1 n)) G1 G' := g
    have R2 := (R1.write (n := n) (mo := .lst c) (o := .lst ws) l1 ⟨ws, rfl, h4⟩).2
    have sameF : Same F H' := fun b y q => s b y (ne_of_none q f1) (R1.fF b y q)
    have gF : GX F G1 G' := g.less fun a hF e => by
      cases q : F a with
      | none => exact hF q
      | some y =>
        rw [hid_ne (ne_of_none q f1), R1.fF a y q] at e
        cases e
    have out : ∀ (j : Nat) (mo : MO), S1.m[j]? = some (some mo) → j ≠ n → G' (α1 j) = none ∧ ∃ o, H' (α1 j) = some o ∧ MV X.K G1 α1 S1.m mo o := fun j mo hj hjn => by
      obtain ⟨h1, h2, o, h5, h6⟩ := R1.mu j mo hj
      have hne : α1 j ≠ α1 n := fun z => hjn (R1.inj j n ⟨mo, hj⟩ l1 z)
      have h7 := s _ _ hne h5
      refine ⟨?_, o, h7, h6⟩
      cases q : G' (α1 j) with
      | none => rfl
      | some o' =>
        obtain ⟨xs, rfl⟩ := g.2 _ _ (by rw [hid_ne hne, h5]; exact fun z => nomatch z) h2 q
        have := sg _ _ q
        rw [h7] at this
        cases this
        cases mo with
        | lst ds => obtain ⟨vs, e, _⟩ := h6; cases e
        | dic t ks ds => cases t <;> (obtain ⟨kvs, e, _⟩ := h6; cases e)
        | lsu us => obtain ⟨vs, e, _⟩ := h6; cases e
        | ins C ns ds => obtain ⟨dx, vs, e, _⟩ := h6; cases e
    have lt : n < S1.m.length := (List.getElem?_eq_some_iff.mp hc).1
    have ax : ∀ j, Live S1.m j → α1 j = α1 j ∧ Live (S1.m.set n (some (.lst c'))) j := fun j l => ⟨rfl, live_set' l⟩
    have back : ∀ j, Live (S1.m.set n (some (.lst c'))) j → Live S1.m j := fun j l => by
      by_cases e : j = n
      · rw [e]; exact l1
      · exact live_set l e
    have R' : ∀ H0, Same F H0 → Same G' H0 → (∀ (j : Nat), Live S1.m j → H0 (α1 j) = H' (α1 j)) → Rl X.K F G' α1 (setM S1 n (.lst c')) σ H0 := fun H0 s1 s2 s3 => by
      refine ⟨s1, s2, R1.ln, fun i u hu => ?_, fun j mo hj => ?_, fun i j li lj e => R1.inj i j (back i li) (back j lj) e⟩
      · obtain ⟨w, e, uv⟩ := R1.sl i u hu
        exact ⟨w, e, uv.on g.1 ax⟩
      · by_cases ejn : j = n
        · subst ejn
          have e2 : mo = .lst c' := by
            have q : (S1.m.set j (some (.lst c')))[j]? = some (some mo) := hj
            rw [List.getElem?_set_self lt] at q
            cases q
            rfl
          subst e2
          exact ⟨f1, go, .lst ws', by rw [s3 j l1]; exact hw, ws', rfl, dw⟩
        · have q : S1.m[j]? = some (some mo) := by
            have q : (S1.m.set n (some (.lst c')))[j]? = some (some mo) := hj
            rw [List.getElem?_set_ne (Ne.symm ejn)] at q
            exact q
          obtain ⟨h1, _⟩ := R1.mu j mo q
          obtain ⟨h2, o, h5, h6⟩ := out j mo q ejn
          exact ⟨h1, h2, o, by rw [s3 j ⟨mo, q⟩]; exact h5, h6.on g.1 ax⟩
    have axS : AX S1 (setM S1 n (.lst c')) α1 α1 := ⟨rfl, ax⟩
    cases hm with
    | dat d => exact k v G' α1 H' (g1.trans gF) (a1.trans axS) (R' H' sameF sg fun _ _ => rfl) hv
    | new hm =>
      obtain ⟨p, vs2, rfl, h5, h6, h7, h8⟩ := hv
      have fp : F p = none := R1.fF.free h5
      have R0 := R' (hid H' p) (fun b x e => by rw [hid_ne (ne_of_none e fp)]; exact sameF _ _ e) (fun b x e => by rw [hid_ne (ne_of_none e h6)]; exact sg _ _ e) fun j l => hid_ne (R1.apart h5 j l)
      obtain ⟨G4, α4, g4, a4, R4, u4⟩ := R0.made hid_same (mo := .lst _) ⟨vs2, rfl, h8⟩ hm
      rw [hid_upd h7] at R4
      exact k _ G4 α4 H' (g1.trans (gF.trans g4)) (a1.trans (axS.trans a4)) R4 u4⟩
end
end DL
/-! DI: a def's body over data gives its promise; instances, their fields and methods. -/
namespace DL
open PySem PySem.Spec PyProof.Rows L2
/-- the state at the entry: the arguments, the other slots empty, m free numbers -/
def st0 (N : List Str) (ds : List D) (m : Nat) : DSt := ⟨ds.map (fun d => some (U.dat d)) ++ List.replicate (N.length - ds.length) none, List.replicate m none⟩
def st1 (N : List Str) (c : List D) (ds : List D) (m : Nat) : DSt := ⟨some (.own 0) :: ds.map (fun d => some (U.dat d)) ++ List.replicate (N.length - (ds.length + 1)) none, some (.lst c) :: List.replicate m none⟩
/-- how a body ends, and what it hands back -/
inductive EndR : Out → Res → Prop
  | dat {d : D} {S : DSt} : EndR (.rt (.dat d) S) (.dat d)
  | lst {n : Nat} {ds : List D} {S : DSt} : n ≠ 0 → S.m[n]? = some (some (.lst ds)) → EndR (.rt (.own n) S) (.dat (.lst ds))
  | dic {n : Nat} {t : Bool} {ks ds : List D} {S : DSt} : n ≠ 0 → S.m[n]? = some (some (.dic t ks ds)) → EndR (.rt (.own n) S) (.dat (.dic t ks ds))
  | new {n : Nat} {ds : List D} {S : DSt} : n ≠ 0 → S.m[n]? = some (some (.lst ds)) → EndR (.rt (.own n) S) (.new ds)
  | nx {S : DSt} : EndR (.nx S) (.dat .non)
def outM : Out → List (Option MO)
  | .nx S => S.m
  | .rt _ S => S.m
  | .bk S => S.m
  | .ct S => S.m
section
variable {P : Program} {w : World} {K : PySem.W.Frag} {mg : Str → Option Value} {base : Heap} {k : Nat} {f : Addr} {fd : FuncData} {ps N : List Str} {x qual : Str} {st : Stmt}
theorem start_at {N : List Str} {vs : List V} {i : Nat} {v : V} (h : vs[i]? = some v) : (L2.start N vs)[i]? = some (some v) := by
  unfold L2.start
  have hl := (List.getElem?_eq_some_iff.mp h).1
  rw [List.getElem?_append_left (by rw [List.length_map]; exact hl), List.getElem?_map, h]
  rfl
theorem maps_at {ds : List D} {n i : Nat} {u : U} (h : (ds.map (fun d => some (U.dat d)) ++ List.replicate n none)[i]? = some (some u)) : ∃ d, ds[i]? = some d ∧ u = .dat d := by
  by_cases hi : i < ds.length
  · rw [List.getElem?_append_left (by rw [List.length_map]; exact hi), List.getElem?_map, List.getElem?_eq_getElem hi] at h
    cases h
    exact ⟨_, List.getElem?_eq_getElem hi, rfl⟩
  · rw [List.getElem?_append_right (by rw [List.length_map]; omega), List.getElem?_replicate] at h
    split at h <;> cases h
theorem start_len {N : List Str} {vs : List V} (h : vs.length ≤ N.length) : (L2.start N vs).length = N.length := by
  unfold L2.start
  rw [List.length_append, List.length_map, List.length_replicate]
  omega
theorem no_live {n k : Nat} {mo : MO} (h : (List.replicate n (none : Option MO))[k]? = some (some mo)) : False := by
  rw [List.getElem?_replicate] at h
  split at h <;> cases h
theorem scope_le (S : FnScope N ps (defScope st)) : ps.length ≤ N.length := by
  have := congrArg List.length S.pre
  rw [List.length_take] at this
  omega
theorem rl_start {G H : Hp} {ds : List D} {vs : List V} {m : Nat} (s : Same G H) (hd : Dats K G ds vs) (hl : ds.length ≤ N.length) : Rl K H G (fun _ => 0) (st0 N ds m) (L2.start N vs) H := by
  have hv : vs.length ≤ N.length := by rw [hd.len]; exact hl
  refine ⟨Same.refl H, s, ?_, fun i u hu => ?_, fun n mo hm => (no_live hm).elim, fun n k l => ?_⟩
  · rw [start_len hv]
    show (ds.map (fun d => some (U.dat d)) ++ List.replicate (N.length - ds.length) none).length = _
    rw [List.length_append, List.length_map, List.length_replicate]
    omega
  · obtain ⟨d, e, rfl⟩ := maps_at hu
    obtain ⟨v, e1, e2⟩ := hd.get e
    exact ⟨v, start_at e1, e2⟩
  · obtain ⟨mo, e⟩ := l
    exact (no_live e).elim
/-- what is handed back, of a result's frame -/
theorem end_res {F G G' H H' : Hp} {α' : Nat → Addr} {S' : DSt} {σ' : L2.St} {u : U} {r : Res} {v : V} (g : GX F G G') (R : Rl K F G' α' S' σ' H') (hu : UV K G' α' S'.m u v) (he : EndR (.rt u S') r) (hF : ∀ n, n ≠ 0 → Live S'.m n → F (α' n) = none → H (α' n) = none) :
    ∃ G2, GX F G G2 ∧ Same G2 H' ∧ ResV K G2 H H' r v ∧ Same G' G2 ∧ ∀ a, G' a = none → (∀ n, n ≠ 0 → Live S'.m n → a ≠ α' n) → G2 a = none := by
  cases he with
  | dat => exact ⟨G', g, R.fG, hu, Same.refl _, fun a h _ => h⟩
  | @lst n ds _ h0 h =>
    obtain ⟨e1, l1⟩ := hu
    obtain ⟨f1, g1, o, h3, vs, rfl, h4⟩ := R.mu _ _ h
    have sg : Same G' (upd G' (α' n) (.lst vs)) := same_upd g1
    refine ⟨upd G' (α' n) (.lst vs), ⟨g.1.trans sg, fun a x hF hG h2 => ?_⟩, fun b y e => ?_, ?_, sg, fun a ha hn => by rw [upd_ne (hn _ h0 l1)]; exact ha⟩
    · have ha := ne_of_none (Option.ne_none_iff_exists'.mp hF).choose_spec f1
      rw [upd_ne ha] at h2
      exact g.2 a x hF hG h2
    · by_cases hb : b = α' n
      · rw [hb, upd_same] at e
        cases e
        rw [hb]
        exact h3
      · rw [upd_ne hb] at e
        exact R.fG b y e
    · rw [e1]
      exact Dat.lst upd_same (h4.mono sg)
  | @dic n t ks ds _ h0 h =>
    obtain ⟨e1, l1⟩ := hu
    obtain ⟨f1, g1, o, h3, h4⟩ := R.mu _ _ h
    have sg : Same G' (upd G' (α' n) o) := same_upd g1
    refine ⟨upd G' (α' n) o, ⟨g.1.trans sg, fun a x hF hG h2 => ?_⟩, fun b y e => ?_, ?_, sg, fun a ha hn => by rw [upd_ne (hn _ h0 l1)]; exact ha⟩
    · have ha := ne_of_none (Option.ne_none_iff_exists'.mp hF).choose_spec f1
      rw [upd_ne ha] at h2
      exact g.2 a x hF hG h2
    · by_cases hb : b = α' n
      · rw [hb, upd_same] at e
        cases e
        rw [hb]
        exact h3
      · rw [upd_ne hb] at e
        exact R.fG b y e
    · rw [e1]
      obtain ⟨vs, h5, h6⟩ := mv_dic (h4.on sg fun n l => ⟨rfl, l⟩) (upd_same (H := G') (a := α' n) (o := o))
      exact Dat.dic h5 h6
  | new h0 h =>
    obtain ⟨e1, l1⟩ := hu
    obtain ⟨f1, g1, o, h3, vs, rfl, h4⟩ := R.mu _ _ h
    exact ⟨G', g, R.fG, ⟨_, vs, e1, hF _ h0 l1 f1, g1, h3, h4⟩, Same.refl _, fun a h _ => h⟩
def Runs (X : Cx) (sts : List Stmt) (S : DSt) (r : Res) : Prop := ∃ out, DSs X sts S out ∧ EndR out r
def RunsO (X : Cx) (sts : List Stmt) (S : DSt) (r : Res) (c' : List D) : Prop := ∃ out, DSs X sts S out ∧ EndR out r ∧ (outM out)[0]? = some (some (.lst c'))
theorem fng_pure {R0 : List D → Res → Prop} (F : Fun K x qual st f fd) (S : FnScope N ps (defScope st)) (m : Nat) (hl : ∀ ds r, R0 ds r → ds.length = ps.length)
    (body : ∀ ds r, R0 ds r → ∀ (cdv : Value) (A : Around) (outer : List Env) (s : Shared) (H : Hp), RoomG k (A.deeper (envOfC qual (defScope st) s.heap.objs.size f cdv)) → Runs (BodyX P w K mg base N qual st f cdv A outer s H) (defBody st) (st0 N ds m) r) :
    FnG P w K mg base (k + 1) f fd ps (SpP K R0) := by
  refine fng_of F S (fun vs H Q h => ?_) fun cdv A outer s H vs Q hr hgd h => ?_
  · obtain ⟨G, ds, r, _, hd, hR, _⟩ := h
    rw [hd.len]
    exact hl ds r hR
  · obtain ⟨G, ds, r, sG, hd, hR, q⟩ := h
    obtain ⟨out, hb, he⟩ := body ds r hR cdv A outer s H ⟨hr, hgd⟩
    have hlen : ds.length ≤ N.length := by rw [hl ds r hR]; exact scope_le S
    refine ⟨_, hb, H, G, fun _ => 0, rl_start sG hd hlen, ?_⟩
    cases out with
    | nx S' =>
      cases he with
      | nx => exact fun G' α' σ' H' g _ R' => q _ G' H' R'.fF g R'.fG .non
    | rt u S' =>
      intro v G' α' σ' H' g _ R' hu
      obtain ⟨G2, g2, s2, hv, _, _⟩ := end_res (H := H) g R' hu he fun n _ _ e => e
      exact q v G2 H' R'.fF g2 s2 hv
    | bk S' => cases he
    | ct S' => cases he
theorem fng_own {R0 : List D → List D → Res → List D → Prop} (F : Fun K x qual st f fd) (S : FnScope N ps (defScope st)) (m : Nat) (hl : ∀ c ds r c', R0 c ds r c' → ds.length + 1 = ps.length)
    (body : ∀ c ds r c', R0 c ds r c' → ∀ (cdv : Value) (A : Around) (outer : List Env) (s : Shared) (H : Hp), RoomG k (A.deeper (envOfC qual (defScope st) s.heap.objs.size f cdv)) → RunsO (BodyX P w K mg base N qual st f cdv A outer s H) (defBody st) (st1 N c ds m) r c') :
    FnG P w K mg base (k + 1) f fd ps (SpO K R0) := by
  refine fng_of F S (fun vs H Q h => ?_) fun cdv A outer s H vs Q hr hgd h => ?_
  · obtain ⟨G, o, c, ws, vs', ds, r, c', rfl, _, _, _, _, hd, hR, _⟩ := h
    rw [List.length_cons, hd.len]
    exact hl c ds r c' hR
  · obtain ⟨G, o, c, ws, vs', ds, r, c', rfl, ho, gn, hc, sG, hd, hR, q⟩ := h
    obtain ⟨out, hb, he, hm0⟩ := body c ds r c' hR cdv A outer s H ⟨hr, hgd⟩
    have hlen : ds.length + 1 ≤ N.length := by rw [hl c ds r c' hR]; exact scope_le S
    have fo : hid H o o = none := hid_same
    have sF : Same (hid H o) H := fun b y e => by
      by_cases hb : b = o
      · rw [hb, fo] at e; cases e
      · rw [hid_ne hb] at e; exact e
    have R0' : Rl K (hid H o) G (fun _ => o) (st1 N c ds m) (L2.start N (.ref o :: vs')) H := by
      refine ⟨sF, sG, ?_, fun i u hu => ?_, fun n mo hmo => ?_, fun n k l l' _ => ?_⟩
      · rw [start_len (by rw [List.length_cons, hd.len]; exact hlen)]
        show (some (U.own 0) :: ds.map (fun d => some (U.dat d)) ++ List.replicate (N.length - (ds.length + 1)) none).length = _
        rw [List.length_append, List.length_cons, List.length_map, List.length_replicate]
        omega
      · cases i with
        | zero =>
          have e : some (some (U.own 0)) = some (some u) := hu
          cases e
          exact ⟨.ref o, start_at rfl, rfl, _, rfl⟩
        | succ i =>
          have hu : (ds.map (fun d => some (U.dat d)) ++ List.replicate (N.length - (ds.length + 1)) none)[i]? = some (some u) := hu
          obtain ⟨d, e, rfl⟩ := maps_at hu
          obtain ⟨v, e1, e2⟩ := hd.get e
          exact ⟨v, start_at (i := i + 1) (by simpa using e1), e2⟩
      · cases n with
        | zero =>
          have e : some (some (MO.lst c)) = some (some mo) := hmo
          cases e
          exact ⟨fo, gn, _, ho, ws, rfl, hc⟩
        | succ n => exact (no_live (show (List.replicate m (none : Option MO))[n]? = some (some mo) from hmo)).elim
      · have z : ∀ j, Live (st1 N c ds m).m j → j = 0 := fun j ⟨mo, e⟩ => by
          cases j with
          | zero => rfl
          | succ j => exact (no_live (show (List.replicate m (none : Option MO))[j]? = some (some mo) from e)).elim
        rw [z n l, z k l']
    refine ⟨_, hb, hid H o, G, fun _ => o, R0', ?_⟩
    have keep : ∀ {H' : Hp}, Same (hid H o) H' → ∀ b y, b ≠ o → H b = some y → H' b = some y := fun s b y hb e => s b y (by rw [hid_ne hb]; exact e)
    cases out with
    | nx S' =>
      cases he with
      | nx =>
        intro G' α' σ' H' g e0 R'
        obtain ⟨f1, g1, oo, h3, ws', rfl, h4⟩ := R'.mu 0 _ hm0
        have e0 : α' 0 = o := e0
        rw [e0] at h3 g1
        exact q _ G' H' ws' (keep R'.fF) h3 h4 g R'.fG g1 .non
    | rt u S' =>
      intro v G' α' σ' H' g e0 R' hu
      obtain ⟨f1, g1, oo, h3, ws', rfl, h4⟩ := R'.mu 0 _ hm0
      have e0 : α' 0 = o := e0
      have l0 : Live S'.m 0 := ⟨_, hm0⟩
      have ap : ∀ n, n ≠ 0 → Live S'.m n → o ≠ α' n := fun n hn l z => hn (R'.inj n 0 l l0 (by rw [e0]; exact z.symm))
      rw [e0] at h3 g1
      obtain ⟨G2, g2, s2, hv, s12, hk⟩ := end_res (H := H) g R' hu he fun n hn l e => by
        rw [hid_ne (Ne.symm (ap n hn l))] at e
        exact e
      exact q v G2 H' ws' (keep R'.fF) h3 (h4.mono s12) g2 s2 (hk o g1 ap) hv
    | bk S' => cases he
    | ct S' => cases he
end
/-! ### knowing less: a list or dict of one's own becomes data, is let go, a slot is forgotten -/
def subU (n : Nat) (d : D) : U → U
  | .own k => if k = n then .dat d else .own k
  | .dat e => .dat e
def subM (n : Nat) (d : D) : MO → MO
  | .lsu us => .lsu (us.map (subU n d))
  | .lst ds => .lst ds
  | .dic t ks vs => .dic t ks vs
  | .ins C ns vs => .ins C ns vs
def frz (S : DSt) (n : Nat) (d : D) : DSt := ⟨S.g.map fun o => o.map (subU n d), (S.m.set n none).map fun o => o.map (subM n d)⟩
inductive Own (m : List (Option MO)) (n : Nat) : D → Prop
  | lst {ds : List D} : m[n]? = some (some (.lst ds)) → Own m n (.lst ds)
  | dic {t : Bool} {ks ds : List D} : m[n]? = some (some (.dic t ks ds)) → Own m n (.dic t ks ds)
theorem Rl.freeze {K : PySem.W.Frag} {F G : Hp} {α : Nat → Addr} {S : DSt} {σ : L2.St} {H : Hp} (R : Rl K F G α S σ H) (n : Nat) {d : D} (h : Own S.m n d) : ∃ G', GX F G G' ∧ Rl K F G' α (frz S n d) σ H ∧ Dat K G' d (.ref (α n)) := by
  obtain ⟨mo, hm⟩ : Live S.m n := by cases h <;> exact ⟨_, by assumption⟩
  obtain ⟨f1, g1, o, h3, h4⟩ := R.mu n mo hm
  have sg : Same G (upd G (α n) o) := same_upd g1
  have real : Dat K (upd G (α n) o) d (.ref (α n)) := by
    cases h with
    | lst h =>
      rw [hm] at h
      cases h
      obtain ⟨vs, rfl, h5⟩ := h4
      exact .lst upd_same (h5.mono sg)
    | dic h =>
      rw [hm] at h
      cases h
      obtain ⟨vs, h5, h6⟩ := mv_dic (h4.on sg fun n l => ⟨rfl, l⟩) (upd_same (H := G) (a := α n) (o := o))
      exact .dic h5 h6
  have at' : ∀ (k : Nat) (mo' : MO), (frz S n d).m[k]? = some (some mo') → k ≠ n ∧ ∃ mo0, S.m[k]? = some (some mo0) ∧ mo' = subM n d mo0 := fun k mo' e => by
    have e : ((S.m.set n none).map fun o => o.map (subM n d))[k]? = some (some mo') := e
    rw [List.getElem?_map] at e
    by_cases hk : n = k
    · subst hk
      rw [List.getElem?_set_self (List.getElem?_eq_some_iff.mp hm).1] at e
      cases e
    · rw [List.getElem?_set_ne hk] at e
      cases q : S.m[k]? with
      | none => rw [q] at e; cases e
      | some q2 =>
        cases q2 with
        | none => rw [q] at e; cases e
        | some mo0 =>
          rw [q] at e
          cases e
          exact ⟨Ne.symm hk, mo0, rfl, rfl⟩
  have liv : ∀ k, Live S.m k → k ≠ n → Live (frz S n d).m k := fun k ⟨mo0, e⟩ hk => by
    refine ⟨subM n d mo0, ?_⟩
    show ((S.m.set n none).map fun o => o.map (subM n d))[k]? = some (some (subM n d mo0))
    rw [List.getElem?_map, List.getElem?_set_ne (Ne.symm hk), e]
    rfl
  have uv : ∀ {u : U} {v : V}, UV K G α S.m u v → UV K (upd G (α n) o) α (frz S n d).m (subU n d u) v := fun {u v} q => by
    cases u with
    | dat e => exact Dat.mono sg e v q
    | own k =>
      obtain ⟨e1, l1⟩ := q
      by_cases hk : k = n
      · subst hk
        have e0 : subU k d (.own k) = .dat d := if_pos rfl
        rw [e0, e1]
        exact real
      · have e0 : subU n d (.own k) = .own k := if_neg hk
        rw [e0]
        exact ⟨e1, liv k l1 hk⟩
  have uvs : ∀ {us : List U} {vs : List V}, UVs K G α S.m us vs → UVs K (upd G (α n) o) α (frz S n d).m (us.map (subU n d)) vs := by
    intro us
    induction us with
    | nil => intro vs q; exact q
    | cons u us ih =>
      rintro vs ⟨v, r, e, q1, q2⟩
      exact ⟨v, r, e, uv q1, ih q2⟩
  refine ⟨upd G (α n) o, ⟨sg, fun a x hF hG h2 => ?_⟩, ⟨R.fF, fun b y e => ?_, by show (S.g.map _).length = _; rw [List.length_map]; exact R.ln, fun i u hu => ?_, fun k mo' hk => ?_, fun k j lk lj e => ?_⟩, real⟩
  · have ha := ne_of_none (Option.ne_none_iff_exists'.mp hF).choose_spec f1
    rw [upd_ne ha, hG] at h2
    cases h2
  · by_cases hb : b = α n
    · rw [hb, upd_same] at e
      cases e
      rw [hb]
      exact h3
    · rw [upd_ne hb] at e
      exact R.fG b y e
  · have hu : (S.g.map fun o => o.map (subU n d))[i]? = some (some u) := hu
    rw [List.getElem?_map] at hu
    cases q : S.g[i]? with
    | none => rw [q] at hu; cases hu
    | some q2 =>
      cases q2 with
      | none => rw [q] at hu; cases hu
      | some u0 =>
        rw [q] at hu
        cases hu
        obtain ⟨v, e1, e2⟩ := R.sl i u0 q
        exact ⟨v, e1, uv e2⟩
  · obtain ⟨hkn, mo0, e, rfl⟩ := at' k mo' hk
    obtain ⟨h5, h6, o2, h7, h8⟩ := R.mu k mo0 e
    have hne : α k ≠ α n := fun z => hkn (R.inj k n ⟨mo0, e⟩ ⟨mo, hm⟩ z)
    refine ⟨h5, by rw [upd_ne hne]; exact h6, o2, h7, ?_⟩
    cases mo0 with
    | lst ds =>
      obtain ⟨vs, e, h9⟩ := h8
      exact ⟨vs, e, h9.mono sg⟩
    | dic t ks ds =>
      cases t with
      | true =>
        obtain ⟨kvs, e, e2, h9⟩ := h8
        exact ⟨kvs, e, e2, h9.mono sg⟩
      | false =>
        obtain ⟨kvs, e, e2, h9⟩ := h8
        exact ⟨kvs, e, e2, h9.mono sg⟩
    | lsu us =>
      obtain ⟨vs, e, h9⟩ := h8
      exact ⟨vs, e, uvs h9⟩
    | ins C ns ds =>
      obtain ⟨dx, vs, e, h0, h9⟩ := h8
      exact ⟨dx, vs, e, h0, h9.mono sg⟩
  · obtain ⟨mo1, e1⟩ := lk
    obtain ⟨mo2, e2⟩ := lj
    obtain ⟨_, m1, e3, _⟩ := at' k mo1 e1
    obtain ⟨_, m2, e4, _⟩ := at' j mo2 e2
    exact R.inj k j ⟨m1, e3⟩ ⟨m2, e4⟩ e
theorem fz_frz {K : PySem.W.Frag} {S : DSt} (n : Nat) {d : D} (h : Own S.m n d) : Fz K S (frz S n d) := fun F G α σ H R => by
  obtain ⟨G', g, R', _⟩ := R.freeze n h
  exact ⟨G', α, g, rfl, R'⟩
def fgt (S : DSt) (i : Nat) : DSt := ⟨S.g.set i none, S.m⟩
theorem fz_fgt {K : PySem.W.Frag} {S : DSt} (i : Nat) : Fz K S (fgt S i) := fun F G α σ H R => by
  refine ⟨G, α, .refl, rfl, R.fF, R.fG, by show (S.g.set i none).length = _; rw [List.length_set]; exact R.ln, fun j u hu => ?_, R.mu, R.inj⟩
  have hu : (S.g.set i none)[j]? = some (some u) := hu
  by_cases e : i = j
  · subst e
    by_cases hl : i < S.g.length
    · rw [List.getElem?_set_self hl] at hu
      cases hu
    · rw [List.getElem?_eq_none (by rw [List.length_set]; omega)] at hu
      cases hu
  · rw [List.getElem?_set_ne e] at hu
    exact R.sl j u hu
/-- no list of mixed things has the number n -/
def noLsu (n : Nat) (m : List (Option MO)) : Bool := m.all fun o => match o with
  | some (.lsu us) => us.all fun u => match u with
    | .own k => k != n
    | _ => true
  | _ => true
def dropU (n : Nat) : Option U → Option U
  | some (.own k) => if k = n then none else some (.own k)
  | o => o
def drp (S : DSt) (n : Nat) : DSt := ⟨S.g.map (dropU n), S.m.set n none⟩
theorem Rl.dropped {K : PySem.W.Frag} {F G : Hp} {α : Nat → Addr} {S : DSt} {σ : L2.St} {H : Hp} (R : Rl K F G α S σ H) (n : Nat) (h : noLsu n S.m = true) : Rl K F G α (drp S n) σ H := by
  have back : ∀ (k : Nat) (mo : MO), (S.m.set n none)[k]? = some (some mo) → k ≠ n ∧ S.m[k]? = some (some mo) := fun k mo e => by
    by_cases hk : n = k
    · subst hk
      by_cases hl : n < S.m.length
      · rw [List.getElem?_set_self hl] at e
        cases e
      · rw [List.getElem?_eq_none (by rw [List.length_set]; omega)] at e
        cases e
    · rw [List.getElem?_set_ne hk] at e
      exact ⟨Ne.symm hk, e⟩
  have liv : ∀ k, Live S.m k → k ≠ n → Live (S.m.set n none) k := fun k ⟨mo, e⟩ hk => ⟨mo, by rw [List.getElem?_set_ne (Ne.symm hk)]; exact e⟩
  refine ⟨R.fF, R.fG, by show (S.g.map _).length = _; rw [List.length_map]; exact R.ln, fun j u hu => ?_, fun k mo hk => ?_, fun k j lk lj e => ?_⟩
  · have hu : (S.g.map (dropU n))[j]? = some (some u) := hu
    rw [List.getElem?_map] at hu
    cases q : S.g[j]? with
    | none => rw [q] at hu; cases hu
    | some q2 =>
      rw [q] at hu
      have hu : dropU n q2 = some u := Option.some.inj hu
      cases q2 with
      | none => cases hu
      | some u0 =>
        obtain ⟨v, e1, e2⟩ := R.sl j u0 q
        cases u0 with
        | dat d =>
          cases hu
          exact ⟨v, e1, e2⟩
        | own k =>
          unfold dropU at hu
          by_cases hk : k = n
          · simp only [if_pos hk] at hu
            cases hu
          · simp only [if_neg hk] at hu
            cases hu
            exact ⟨v, e1, e2.1, liv k e2.2 hk⟩
  · obtain ⟨hkn, e⟩ := back k mo hk
    obtain ⟨h1, h2, o, h3, h4⟩ := R.mu k mo e
    refine ⟨h1, h2, o, h3, ?_⟩
    cases mo with
    | lst ds => exact h4
    | dic t ks ds => cases t <;> exact h4
    | ins C ns ds => exact h4
    | lsu us =>
      obtain ⟨vs, e5, h5⟩ := h4
      refine ⟨vs, e5, ?_⟩
      have hall := List.all_eq_true.mp h _ (List.mem_of_getElem? e)
      have hall : (us.all fun u => match u with
        | .own k => k != n
        | _ => true) = true := hall
      clear e e5 hk h3
      induction us generalizing vs with
      | nil => exact h5
      | cons u us ih =>
        obtain ⟨v, r, e6, h6, h7⟩ := h5
        rw [List.all_cons, Bool.and_eq_true] at hall
        refine ⟨v, r, e6, ?_, ih r h7 hall.2 hall.2⟩
        cases u with
        | dat d => exact h6
        | own j => exact ⟨h6.1, liv j h6.2 (by simpa using hall.1)⟩
  · obtain ⟨mo1, e1⟩ := lk
    obtain ⟨mo2, e2⟩ := lj
    obtain ⟨_, e3⟩ := back k mo1 e1
    obtain ⟨_, e4⟩ := back j mo2 e2
    exact R.inj k j ⟨mo1, e3⟩ ⟨mo2, e4⟩ e
theorem fz_drp {K : PySem.W.Frag} {S : DSt} (n : Nat) (h : noLsu n S.m = true) : Fz K S (drp S n) := fun F G α σ H R => ⟨G, α, .refl, rfl, R.dropped n h⟩
theorem Fz.trans {K : PySem.W.Frag} {S S1 S2 : DSt} (a : Fz K S S1) (b : Fz K S1 S2) : Fz K S S2 := fun F G α σ H R => by
  obtain ⟨G1, α1, g1, e1, R1⟩ := a F G α σ H R
  obtain ⟨G2, α2, g2, e2, R2⟩ := b F G1 α1 σ H R1
  exact ⟨G2, α2, g1.trans g2, e2.trans e1, R2⟩
theorem Fz.refl {K : PySem.W.Frag} {S : DSt} : Fz K S S := fun F G α σ H R => ⟨G, α, .refl, rfl, R⟩
section
variable {X : Cx} {e c : Expr} {S S1 S2 : DSt} {u : U} {r : Res} {pos : Pos} {st : Stmt} {sts a b : List Stmt} {c' : List D}
theorem runs_nil : Runs X [] S (.dat .non) := ⟨_, dss_nil, .nx⟩
theorem runs_cons (h : DS X st S (.nx S1)) (t : Runs X sts S1 r) : Runs X (st :: sts) S r := by
  obtain ⟨out, h2, e⟩ := t
  exact ⟨out, dss_cons h h2, e⟩
theorem runs_ret (h : DE X e S u S1) (he : EndR (.rt u S1) r) : Runs X (.Return (some e) pos :: sts) S r := ⟨_, dss_out (ds_ret h) rfl, he⟩
theorem runs_ifT (hc : DT X c S true S1) (t : Runs X a S1 r) (hr : ∀ out, EndR out r → isNx out = true → False) : Runs X (.If c a b pos :: sts) S r := by
  obtain ⟨out, h2, e⟩ := t
  refine ⟨out, dss_out (ds_ifT hc h2) ?_, e⟩
  cases q : isNx out with
  | false => rfl
  | true => exact (hr out e q).elim
/-- an if whose chosen branch hands back -/
theorem runs_ifRT {out : Out} (hc : DT X c S true S1) (h : DSs X a S1 out) (ho : isNx out = false) (he : EndR out r) : Runs X (.If c a b pos :: sts) S r := ⟨out, dss_out (ds_ifT hc h) ho, he⟩
theorem runs_ifRF {out : Out} (hc : DT X c S false S1) (h : DSs X b S1 out) (ho : isNx out = false) (he : EndR out r) : Runs X (.If c a b pos :: sts) S r := ⟨out, dss_out (ds_ifF hc h) ho, he⟩
theorem runs_fz (f : Fz X.K S S1) (t : Runs X sts S1 r) : Runs X sts S r := by
  obtain ⟨out, h2, e⟩ := t
  exact ⟨out, dss_fz f h2, e⟩
theorem runs_of {out : Out} (h : DS X st S out) (ho : isNx out = false) (he : EndR out r) : Runs X (st :: sts) S r := ⟨out, dss_out h ho, he⟩
theorem runsO_nil (h : S.m[0]? = some (some (.lst c'))) : RunsO X [] S (.dat .non) c' := ⟨_, dss_nil, .nx, h⟩
theorem runsO_cons (h : DS X st S (.nx S1)) (t : RunsO X sts S1 r c') : RunsO X (st :: sts) S r c' := by
  obtain ⟨out, h2, e⟩ := t
  exact ⟨out, dss_cons h h2, e⟩
theorem runsO_ret (h : DE X e S u S1) (he : EndR (.rt u S1) r) (hc : S1.m[0]? = some (some (.lst c'))) : RunsO X (.Return (some e) pos :: sts) S r c' := ⟨_, dss_out (ds_ret h) rfl, he, hc⟩
theorem runsO_fz (f : Fz X.K S S1) (t : RunsO X sts S1 r c') : RunsO X sts S r c' := by
  obtain ⟨out, h2, e⟩ := t
  exact ⟨out, dss_fz f h2, e⟩
theorem runsO_of {out : Out} (h : DS X st S out) (ho : isNx out = false) (he : EndR out r) (hc : (outM out)[0]? = some (some (.lst c'))) : RunsO X (st :: sts) S r c' := ⟨out, dss_out h ho, he, hc⟩
end
end DL
/-! DJ: dicts whose keys are tuples, over data. -/
namespace DL
open PySem PySem.Spec PyProof.Rows L2
/-! ### lists of pairs as dicts -/
section
variable {κ β γ : Type} [DecidableEq κ]
def val (l : List (κ × β)) (k : κ) : Option β := (l.find? fun p => decide (p.1 = k)).map (·.2)
def put (l : List (κ × β)) (k : κ) (d : β) : List (κ × β) := if (l.any fun p => decide (p.1 = k)) = true then l.map (fun p => if p.1 = k then (p.1, d) else p) else l ++ [(k, d)]
def merge (l m : List (κ × β)) : List (κ × β) := m.foldl (fun acc p => put acc p.1 p.2) l
theorem val_cons {p : κ × β} {l : List (κ × β)} {k : κ} : val (p :: l) k = if p.1 = k then some p.2 else val l k := by
  unfold val
  by_cases h : p.1 = k <;> simp [List.find?_cons, h]
theorem val_none {k : κ} : ∀ {l : List (κ × β)}, val l k = none ↔ k ∉ l.map (·.1)
  | [] => by simp [val]
  | p :: l => by
    rw [val_cons]
    by_cases h : p.1 = k
    · simp [h]
    · rw [if_neg h, val_none, List.map_cons, List.mem_cons, not_or]
      exact ⟨fun z => ⟨fun e => h e.symm, z⟩, fun z => z.2⟩
theorem val_some {k : κ} {l : List (κ × β)} : (val l k).isSome = true ↔ k ∈ l.map (·.1) := by
  constructor
  · intro h
    apply Decidable.byContradiction
    intro z
    rw [val_none.mpr z] at h
    cases h
  · intro h
    cases e : val l k with
    | some d => rfl
    | none => exact absurd h (val_none.mp e)
theorem val_isSome {k : κ} {l : List (κ × β)} : (val l k).isSome = decide (k ∈ l.map (·.1)) := by
  rw [Bool.eq_iff_iff, val_some, decide_eq_true_iff]
theorem any_key {k : κ} {l : List (κ × β)} : (l.any fun p => decide (p.1 = k)) = decide (k ∈ l.map (·.1)) := by
  rw [Bool.eq_iff_iff, List.any_eq_true, decide_eq_true_iff, List.mem_map]
  constructor
  · rintro ⟨x, h1, h2⟩
    exact ⟨x, h1, of_decide_eq_true h2⟩
  · rintro ⟨x, h1, h2⟩
    exact ⟨x, h1, decide_eq_true h2⟩
theorem put_new {k : κ} {d : β} {l : List (κ × β)} (h : k ∉ l.map (·.1)) : put l k d = l ++ [(k, d)] := by
  unfold put
  rw [any_key, decide_eq_false h]
  exact if_neg Bool.false_ne_true
theorem put_old {k : κ} {d : β} {l : List (κ × β)} (h : k ∈ l.map (·.1)) : put l k d = l.map (fun p => if p.1 = k then (p.1, d) else p) := by
  unfold put
  rw [any_key, decide_eq_true h]
  exact if_pos rfl
theorem put_keys {k : κ} {d : β} {l : List (κ × β)} : (put l k d).map (·.1) = if k ∈ l.map (·.1) then l.map (·.1) else l.map (·.1) ++ [k] := by
  by_cases h : k ∈ l.map (·.1)
  · rw [put_old h, if_pos h, List.map_map]
    apply List.map_congr_left
    intro p _
    by_cases e : p.1 = k <;> simp [e]
  · rw [put_new h, if_neg h, List.map_append]
    rfl
theorem merge_app : ∀ {l m : List (κ × β)}, ((l ++ m).map (·.1)).Nodup → merge l m = l ++ m
  | l, [], _ => by simp [merge]
  | l, p :: m, h => by
    have hp : p.1 ∉ l.map (·.1) := by
      rw [List.map_append, List.map_cons, List.nodup_append] at h
      exact fun z => h.2.2 _ z _ List.mem_cons_self rfl
    show merge (put l p.1 p.2) m = _
    rw [put_new hp]
    have h2 : (((l ++ [(p.1, p.2)]) ++ m).map (·.1)).Nodup := by
      rw [List.append_assoc]
      exact h
    rw [merge_app h2, List.append_assoc]
    rfl
theorem merge_nil {m : List (κ × β)} (h : (m.map (·.1)).Nodup) : merge [] m = m := by
  have := merge_app (l := []) (m := m) (by simpa using h)
  simpa using this
theorem merge_keys : ∀ {m l : List (κ × β)}, (l.map (·.1)).Nodup → ((merge l m).map (·.1)).Nodup ∧ ∀ k, k ∈ (merge l m).map (·.1) ↔ k ∈ l.map (·.1) ∨ k ∈ m.map (·.1)
  | [], l, h => ⟨h, fun k => by simp [merge]⟩
  | p :: m, l, h => by
    have hn : ((put l p.1 p.2).map (·.1)).Nodup := by
      rw [put_keys]
      by_cases e : p.1 ∈ l.map (·.1)
      · rw [if_pos e]; exact h
      · rw [if_neg e, List.nodup_append]
        refine ⟨h, by simp, fun a ha b hb => ?_⟩
        rw [List.mem_singleton] at hb
        subst hb
        exact fun z => e (z ▸ ha)
    obtain ⟨h1, h2⟩ := merge_keys (m := m) hn
    refine ⟨h1, fun k => ?_⟩
    show k ∈ (merge (put l p.1 p.2) m).map (·.1) ↔ _
    rw [h2, put_keys, List.map_cons, List.mem_cons]
    by_cases e : p.1 ∈ l.map (·.1)
    · rw [if_pos e]
      constructor
      · rintro (z | z)
        · exact .inl z
        · exact .inr (.inr z)
      · rintro (z | z | z)
        · exact .inl z
        · rw [z]; exact .inl e
        · exact .inr z
    · rw [if_neg e, List.mem_append, List.mem_singleton]
      constructor
      · rintro ((z | z) | z)
        · exact .inl z
        · exact .inr (.inl z)
        · exact .inr (.inr z)
      · rintro (z | z | z)
        · exact .inl (.inl z)
        · exact .inl (.inr z)
        · exact .inr z
theorem merge_len {m l : List (κ × β)} : (merge l m).length ≤ l.length + m.length := by
  induction m generalizing l with
  | nil => simp [merge]
  | cons p m ih =>
    have h : (put l p.1 p.2).length ≤ l.length + 1 := by
      unfold put
      split
      · rw [List.length_map]; omega
      · rw [List.length_append]; simp
    have := ih (l := put l p.1 p.2)
    show (merge (put l p.1 p.2) m).length ≤ _
    rw [List.length_cons]
    omega
theorem perm_of_sub {κ : Type} [DecidableEq κ] : ∀ {a b : List κ}, a.Nodup → (∀ x ∈ a, x ∈ b) → b.length ≤ a.length → a.Perm b
  | [], b, _, _, h => by rw [List.eq_nil_of_length_eq_zero (Nat.le_zero.mp h)]
  | x :: a, b, hn, hs, h => by
    have hx := hs x List.mem_cons_self
    have p := List.perm_cons_erase hx
    obtain ⟨h1, h2⟩ := List.nodup_cons.mp hn
    have hl : (b.erase x).length ≤ a.length := by
      rw [List.length_erase_of_mem hx]
      rw [List.length_cons] at h
      omega
    have hs2 : ∀ y ∈ a, y ∈ b.erase x := fun y hy => (List.mem_erase_of_ne fun e => h1 (by rw [← e]; exact hy)).mpr (hs y (List.mem_cons_of_mem _ hy))
    exact ((perm_of_sub h2 hs2 hl).cons x).trans p.symm
/-- fewer keys than pairs exactly if one comes twice -/
theorem merge_lt {m : List (κ × β)} : (merge [] m).length < m.length ↔ ¬ (m.map (·.1)).Nodup := by
  constructor
  · intro h hn
    rw [merge_nil hn] at h
    exact Nat.lt_irrefl _ h
  · intro h
    apply Decidable.byContradiction
    intro z
    obtain ⟨h1, h2⟩ := merge_keys (m := m) (l := []) (by simp)
    have sub : (merge [] m).map (·.1) ⊆ m.map (·.1) := fun k hk => by
      rcases (h2 k).mp hk with e | e
      · simp at e
      · exact e
    have sup : m.map (·.1) ⊆ (merge [] m).map (·.1) := fun k hk => (h2 k).mpr (.inr hk)
    have hl : ((merge [] m).map (·.1)).length = (m.map (·.1)).length := by
      have := merge_len (m := m) (l := [])
      rw [List.length_map, List.length_map]
      simp only [List.length_nil] at this
      omega
    apply h
    exact (perm_of_sub h1 (fun x hx => sub hx) (by omega)).nodup_iff.mp h1
end
theorem vput {K : PySem.W.Frag} {κ : Type} [DecidableEq κ] (kvs : List (κ × V)) (k : κ) (v : V) : putK kvs k v = put kvs k v := rfl
/-! ### keys that are tuples of ints -/
def ik (ns : List Int) : List Key := ns.map .inl
theorem ik_inj {a b : List Int} (h : ik a = ik b) : a = b := by
  unfold ik at h
  exact (List.map_inj_right fun x y e => Sum.inl.inj e).mp h
theorem ik_kV (ns : List Int) : (ik ns).map kV = ns.map V.int := by
  unfold ik
  rw [List.map_map]
  rfl
theorem ik_tkD (ns : List Int) : tkD (ik ns) = .tup (ns.map .int) := by
  unfold ik tkD
  rw [List.map_map]
  rfl
theorem keyD_inj : ∀ {a b : Key}, keyD a = keyD b → a = b
  | .inl _, .inl _, h => by cases h; rfl
  | .inr _, .inr _, h => by cases h; rfl
  | .inl _, .inr _, h => by cases h
  | .inr _, .inl _, h => by cases h
theorem tkD_inj {a b : List Key} (h : tkD a = tkD b) : a = b := by
  unfold tkD at h
  exact (List.map_inj_right fun x y e => keyD_inj e).mp (D.tup.inj h)
abbrev Ps := List (List Int × D)
def kOf (ps : Ps) : List (List Key) := ps.map fun p => ik p.1
def vOf (ps : Ps) : List D := ps.map fun p => p.2
section
variable {K : PySem.W.Frag} {F G : Hp} {α : Nat → Addr} {S : DSt} {σ : L2.St} {H : Hp}
/-- the pairs as the heap has them -/
inductive PsV (K : PySem.W.Frag) (G : Hp) : Ps → List (List Key × V) → Prop
  | nil : PsV K G [] []
  | cons {ns : List Int} {d : D} {ps : Ps} {v : V} {kvs : List (List Key × V)} : Dat K G d v → PsV K G ps kvs → PsV K G ((ns, d) :: ps) ((ik ns, v) :: kvs)
theorem psV_of : ∀ {ps : Ps} {kvs : List (List Key × V)}, kOf ps = kvs.map (fun p => p.1) → Dats K G (vOf ps) (kvs.map fun p => p.2) → PsV K G ps kvs
  | [], [], _, _ => .nil
  | [], _ :: _, h, _ => by cases h
  | _ :: _, [], h, _ => by cases h
  | (ns, d) :: ps, (k, v) :: kvs, h, hd => by
    have h1 : ik ns = k := (List.cons.inj h).1
    have h2 : kOf ps = kvs.map (fun p => p.1) := (List.cons.inj h).2
    subst h1
    obtain ⟨v', r, e, d1, d2⟩ := of_dats (show Dats K G (d :: vOf ps) (v :: kvs.map fun p => p.2) from hd)
    cases e
    exact .cons d1 (psV_of h2 d2)
theorem PsV.keys : ∀ {ps : Ps} {kvs : List (List Key × V)}, PsV K G ps kvs → kOf ps = kvs.map fun p => p.1
  | _, _, .nil => rfl
  | _, _, .cons _ t => by
    have e := t.keys
    unfold kOf at e ⊢
    rw [List.map_cons, List.map_cons, e]
theorem PsV.vals : ∀ {ps : Ps} {kvs : List (List Key × V)}, PsV K G ps kvs → Dats K G (vOf ps) (kvs.map fun p => p.2)
  | _, _, .nil => .nil
  | _, _, .cons d t => .cons d t.vals
theorem PsV.len {ps : Ps} {kvs : List (List Key × V)} (h : PsV K G ps kvs) : kvs.length = ps.length := by
  induction h with
  | nil => rfl
  | cons _ _ ih => rw [List.length_cons, List.length_cons, ih]
theorem PsV.mono {G' : Hp} (e : Same G G') {ps : Ps} {kvs : List (List Key × V)} (h : PsV K G ps kvs) : PsV K G' ps kvs := by
  induction h with
  | nil => exact .nil
  | cons d _ ih => exact .cons (Dat.mono e _ _ d) ih
theorem PsV.val {ps : Ps} {kvs : List (List Key × V)} (h : PsV K G ps kvs) (k : List Int) : (val ps k = none ∧ valV kvs (ik k) = none) ∨ ∃ d v, val ps k = some d ∧ valV kvs (ik k) = some v ∧ Dat K G d v := by
  induction h with
  | nil => exact .inl ⟨rfl, rfl⟩
  | @cons ns d ps v kvs hd _ ih =>
    rw [val_cons]
    by_cases e : ns = k
    · subst e
      exact .inr ⟨d, v, by simp, valV_pos rfl, hd⟩
    · have e2 : ¬ ik ns = ik k := fun z => e (ik_inj z)
      rw [if_neg e, valV_neg e2]
      exact ih
theorem PsV.mem {ps : Ps} {kvs : List (List Key × V)} (h : PsV K G ps kvs) (k : List Int) : ik k ∈ kvs.map (·.1) ↔ k ∈ ps.map (·.1) := by
  induction h with
  | nil => simp
  | cons _ _ ih =>
    rw [List.map_cons, List.map_cons, List.mem_cons, List.mem_cons, ih]
    exact or_congr ⟨fun e => ik_inj e, fun e => by rw [e]⟩ Iff.rfl
theorem PsV.app {ps qs : Ps} {kvs lvs : List (List Key × V)} (h : PsV K G ps kvs) (t : PsV K G qs lvs) : PsV K G (ps ++ qs) (kvs ++ lvs) := by
  induction h with
  | nil => exact t
  | cons d _ ih => exact .cons d ih
theorem PsV.put {ps : Ps} {kvs : List (List Key × V)} {k : List Int} {d : D} {v : V} (h : PsV K G ps kvs) (hd : Dat K G d v) : PsV K G (put ps k d) (putK kvs (ik k) v) := by
  rw [vput (K := K)]
  by_cases e : k ∈ ps.map (·.1)
  · rw [put_old e, put_old ((h.mem k).mpr e)]
    clear e
    induction h with
    | nil => exact .nil
    | @cons ns d' ps v' kvs hd' _ ih =>
      rw [List.map_cons, List.map_cons]
      by_cases e : ns = k
      · subst e
        rw [if_pos rfl, if_pos rfl]
        exact .cons hd ih
      · rw [if_neg e, if_neg fun z => e (ik_inj z)]
        exact .cons hd' ih
  · rw [put_new e, put_new fun z => e ((h.mem k).mp z)]
    exact h.app (.cons hd .nil)
def MO.pd (ps : Ps) : MO := .dic true ((kOf ps).map tkD) (vOf ps)
theorem mv_pd {ps : Ps} {kvs : List (List Key × V)} {m : List (Option MO)} (h : PsV K G ps kvs) : MV K G α m (.pd ps) (.dT kvs) := by
  refine ⟨kvs, rfl, ?_, h.vals⟩
  rw [h.keys, List.map_map]
  rfl
theorem pd_mv {ps : Ps} {o : HO} {m : List (Option MO)} (h : MV K G α m (.pd ps) o) : ∃ kvs, o = .dT kvs ∧ PsV K G ps kvs := by
  obtain ⟨kvs, rfl, h1, h2⟩ := h
  refine ⟨kvs, rfl, psV_of ?_ h2⟩
  have h1 : (kOf ps).map tkD = (kvs.map fun p => p.1).map tkD := by
    rw [List.map_map]
    exact h1
  exact (List.map_inj_right fun x y e => tkD_inj e).mp h1
/-- a dict by its pairs: locked data, data, one's own -/
inductive DU (m : List (Option MO)) : U → Ps → Prop
  | lkd (ps : Ps) : DU m (.dat (.lkd (kOf ps) (vOf ps))) ps
  | own {n : Nat} {ps : Ps} : m[n]? = some (some (.pd ps)) → DU m (.own n) ps
theorem DU.real (R : Rl K F G α S σ H) {u : U} {ps : Ps} (l : DU S.m u ps) {v : V} (h : UV K G α S.m u v) : ∃ a kvs, v = .ref a ∧ Rd H a (.dT kvs) ∧ PsV K G ps kvs := by
  cases l with
  | lkd ps =>
    obtain ⟨a, o, kvs, rfl, h1, h2, h3⟩ := of_lkd (show Dat K G (.lkd _ _) v from h)
    exact ⟨a, kvs, rfl, .inr ⟨o, R.fG _ _ h1⟩, psV_of h2 h3⟩
  | own e =>
    obtain ⟨e1, _⟩ := h
    obtain ⟨_, _, o, h3, h4⟩ := R.mu _ _ e
    obtain ⟨kvs, rfl, h5⟩ := pd_mv h4
    exact ⟨_, kvs, e1, .inl h3, h5⟩
theorem of_key {ns : List Int} {v : V} (h : Dat K G (.tup (ns.map .int)) v) : ∃ b, v = .ref b ∧ G b = some (.tup ((ik ns).map kV)) := by
  obtain ⟨a, vs, rfl, h1, h2⟩ := of_tup h
  rw [dats_ints h2] at h1
  exact ⟨a, rfl, by rw [ik_kV]; exact h1⟩
end
section
variable {X : Cx} {a b o i value : Expr} {S S1 S2 S3 : DSt} {u : U} {ps : Ps} {ns : List Int} {d : D} {pos pos' : Pos} {n : Nat}
theorem de_dget (hu : X.A.units + 1 < cLine) (ha : DE X a S u S1) (hb : DE X b S1 (.dat (.tup (ns.map .int))) S2) (q : DU S2.m u ps) (e : val ps ns = some d) (hs : NoSl b := by exact fun _ _ => rfl) : DE X (.Subscript a b pos) S (.dat d) S2 :=
  PE.wk (pe_dget hu ha hb hs) fun σ H Q ⟨F, G, α, R, k⟩ => ⟨F, G, α, R, fun v G1 α1 H1 g1 a1 R1 uv => ⟨F, G1, α1, R1, fun y G2 α2 H2 g2 a2 R2 uy => by
    obtain ⟨c, kvs, rfl, h1, h2⟩ := q.real R2 (uv.on g2.1 a2.2)
    obtain ⟨b', rfl, h3⟩ := of_key uy
    rcases h2.val ns with ⟨h4, _⟩ | ⟨d', v', h4, h5, h6⟩
    · rw [e] at h4; cases h4
    · rw [e] at h4
      cases h4
      exact ⟨c, v', rfl, .inr ⟨kvs, ik ns, b', h1, rfl, R2.fG _ _ h3, h5.symm⟩, k v' G2 α2 H2 (g1.trans g2) (a1.trans a2) R2 h6⟩⟩⟩
theorem dget_some {K : PySem.W.Frag} {F G : Hp} {α : Nat → Addr} {σ : L2.St} {H : Hp} {y x : V} (R : Rl K F G α S σ H) (q : DU S.m u ps) (uv : UV K G α S.m u x) (uy : Dat K G (.tup (ns.map .int)) y) : ∃ c o, x = .ref c ∧ DGet H c y o ∧ o.isSome = (val ps ns).isSome := by
  obtain ⟨c, kvs, rfl, h1, h2⟩ := q.real R uv
  obtain ⟨b', rfl, h3⟩ := of_key uy
  refine ⟨c, _, rfl, .inr ⟨kvs, ik ns, b', h1, rfl, R.fG _ _ h3, rfl⟩, ?_⟩
  rcases h2.val ns with ⟨h4, h5⟩ | ⟨d', v', h4, h5, _⟩
  · rw [h4, h5]; rfl
  · rw [h4, h5]; rfl
theorem de_din (hu : X.A.units + 1 < cLine) (ha : DE X a S (.dat (.tup (ns.map .int))) S1) (hb : DE X b S1 u S2) (q : DU S2.m u ps) (hm : behindInMarks .In b = false := by rfl) : DE X (.Compare a [.In] [b] pos) S (.dat (.bl (val ps ns).isSome)) S2 :=
  PE.wk (pe_cmp (pc_din hu ha hb) hm) fun σ H Q ⟨F, G, α, R, k⟩ => ⟨F, G, α, R, fun y G1 α1 H1 g1 a1 R1 uy => ⟨F, G1, α1, R1, fun x G2 α2 H2 g2 a2 R2 ux => by
    obtain ⟨c, o, rfl, h1, h2⟩ := dget_some R2 q ux (Dat.mono g2.1 _ _ uy)
    refine ⟨c, o, rfl, h1, ?_⟩
    rw [h2]
    exact k _ G2 α2 H2 (g1.trans g2) (a1.trans a2) R2 (.bl _)⟩⟩
theorem de_dnotin (hu : X.A.units + 1 < cLine) (ha : DE X a S (.dat (.tup (ns.map .int))) S1) (hb : DE X b S1 u S2) (q : DU S2.m u ps) (hm : behindInMarks .NotIn b = false := by rfl) : DE X (.Compare a [.NotIn] [b] pos) S (.dat (.bl (!(val ps ns).isSome))) S2 :=
  PE.wk (pe_cmp (pc_dnotin hu ha hb) hm) fun σ H Q ⟨F, G, α, R, k⟩ => ⟨F, G, α, R, fun y G1 α1 H1 g1 a1 R1 uy => ⟨F, G1, α1, R1, fun x G2 α2 H2 g2 a2 R2 ux => by
    obtain ⟨c, o, rfl, h1, h2⟩ := dget_some R2 q ux (Dat.mono g2.1 _ _ uy)
    refine ⟨c, o, rfl, h1, ?_⟩
    rw [h2]
    exact k _ G2 α2 H2 (g1.trans g2) (a1.trans a2) R2 (.bl _)⟩⟩
/-- d[k] = v, d one's own -/
theorem ds_dput (hu : X.A.units + 1 < cLine) (hv : DE X value S (.dat d) S1) (ho : DE X o S1 (.own n) S2) (hi : DE X i S2 (.dat (.tup (ns.map .int))) S3) (q : S3.m[n]? = some (some (.pd ps))) (hz : ps.length ≤ 1000000)
    (hs : swapsWith value (some (.Subscript o i pos')) pos.line X.env = pure false := by rfl) : DS X (.Assign [.Subscript o i pos'] value pos) S (.nx (setM S3 n (.pd (put ps ns d)))) :=
  PS.wk (ps_dput hu ho hi hv hs) fun E σ H ⟨F, G, α, R, k⟩ => ⟨F, G, α, R, fun v G1 α1 H1 g1 a1 R1 uv => ⟨F, G1, α1, R1, fun x G2 α2 H2 g2 a2 R2 ux => ⟨F, G2, α2, R2, fun y G3 α3 H3 g3 a3 R3 uy => by
    obtain ⟨ex, lx⟩ := ux.on g3.1 a3.2
    obtain ⟨_, _, ob, h3, h4⟩ := R3.mu n _ q
    obtain ⟨kvs, rfl, h5⟩ := pd_mv h4
    obtain ⟨b', rfl, h6⟩ := of_key uy
    obtain ⟨ax, R4⟩ := R3.write (n := n) (mo := .pd (put ps ns d)) (o := .dT (putK kvs (ik ns) v)) lx (mv_pd (h5.put (Dat.mono (g2.1.trans g3.1) _ _ uv)))
    exact ⟨α3 n, _, ex, .t h3 (R3.fG _ _ h6) (by rw [h5.len, sizeLine_eq]; omega), k G3 α3 σ _ (g1.trans (g2.trans g3)) (a3.1.trans (a2.1.trans a1.1)) R4⟩⟩⟩⟩
/-! ### len, displays, dict(pairs) -/
def rLenD : List V → Hp → VK → Prop := fun xs H Q => ∃ (p : Addr) (kvs : List (List Key × V)), xs = [.ref p] ∧ Rd H p (.dT kvs) ∧ Q (.int ((kvs.length : Nat) : Int)) H
theorem call_lenD : CallR X (.builtin "len") rLenD := by
  rintro pins s σ H xs us Q J r ⟨p, kvs, rfl, hp, q⟩
  obtain ⟨w1, rfl, rx⟩ := vals1 r
  cases rx
  obtain ⟨z, nm, ys, rel, dd⟩ := dt_rd J.hok hp
  have el : ys.length = kvs.length := (Paired.length rel).symm
  refine call_len_dictH nm dd (by rw [el]; rw [sizeLine_eq] at z; omega) ⟨.int ((kvs.length : Nat) : Int), H, J.tok _, ⟨s.toks + 1, by rw [el]⟩, q⟩
theorem de_lenD {p : Pos} (hm : X.mg "len" = none) (ha : DE X a S u S1) (q : DU S1.m u ps) (hg : Gl X "len" := by rfl) (he : starEach [a] X.env = (false, eval a X.env) :: starEach [] X.env := by rfl) : DE X (.Call (.Name "len" p) [a] [] pos) S (.dat (.int ps.length)) S1 :=
  de_callB call_lenD hm boot_len (da_cons ha da_nil he) (fun F G α σ H vs Q R hv k => by
    obtain ⟨v, r, rfl, h1, h2⟩ := hv
    have e : r = [] := h2
    subst e
    obtain ⟨c, kvs, rfl, h3, h4⟩ := q.real R h1
    exact ⟨c, kvs, rfl, h3, k _ G α H .refl .refl R (by rw [h4.len]; exact .int _)⟩) hg (by decide) (by decide) he
/-- {} as data that nobody looks into but by repr -/
theorem de_emp : DE X (.Dict [] [] pos) S (.dat (.dic true [] [])) S :=
  PE.wk pe_dnewT fun σ H Q ⟨F, G, α, R, k⟩ p hp => by
    obtain ⟨G2, α2, g2, a2, R2, u2⟩ := R.made hp (mo := .dic true [] []) (o := .dT []) ⟨[], rfl, rfl, .nil⟩ (.dd true [] [])
    exact k _ G2 α2 _ g2 a2 R2 u2
theorem dt_put {P : Program} {w : World} {H : Hp} {h : Heap} {a : Addr} {kvs : List (List Key × V)} {xs : List (List Key × Addr × Value)} (z : kvs.length ≤ sizeLine) (nm : (a == sysModules) = false) (r : KT H kvs xs) (dh : h.DictOfH (tupleKind (mixKind P w)) a xs) : ObjOk P w H h a (.dT kvs) := by
  obtain ⟨o, es, ep, e1, e2, e3, e4, _, e5⟩ := dh
  exact ⟨z, nm, xs, r, o, es, ep, e1, e2, e3, e4, e5⟩
/-- one pair -/
def tDisp1 (tk tv : TE) : TE := fun σ H Q => ∀ p, H p = none → tk σ (upd H p (.dT [])) fun x H1 => tv σ H1 fun y H2 => ∃ b k, x = .ref b ∧ H2 p = some (.dT []) ∧ H2 b = some (.tup (k.map kV)) ∧ Q (.ref p) (upd H2 p (.dT [(k, y)]))
theorem pe_disp1 {tk tv : TE} (hu : X.A.units + 1 < cLine) (hk : PE X a tk) (hv : PE X b tv) : PE X (.Dict [some a] [b] pos) (tDisp1 tk tv) := by
  refine ⟨fun pins s σ H Q J q => ?_⟩
  have nw := J.hok.fresh (Nat.le_refl s.heap.objs.size)
  have J1 := J.laid (a := s.heap.objs.size) (o := .dT []) (h' := s.heap.push { cls := .type "dict", data := .dict #[] }) (t' := s.toks) (fun _ _ z => Heap.get?_push_of_some _ z) (Nat.le_refl _) (dt_empty s.heap J.big)
  have sh := zip_pairTrees [some a] [b] X.env pos rfl rfl
  rw [arm_eval_Dict, sh, dictDisplay_pairs (pairTrees [some a] [b] X.env pos) (by exact List.cons_ne_nil _ _) (by show 1 < 17; decide)]
  refine wpAny_bind (wpAny_standAt (wpAny_bind (wpAny_subDictH (knd := tupleKind (mixKind X.prog X.w)) (Q := fun c s' => wpAny (model X.prog X.w) X.A (pure (Value.ref c)) (EP X pins σ Q) X.xe s') (show X.A.units < cLine by omega) (by show 1 ≤ 15; decide) ?_)))
  refine pairTrees_cons_walk (thn (hk.run pins _ σ _ _ J1 (q _ nw)) fun w1 s2 ⟨x, H2, J2, rx, q2⟩ => thn (hv.run pins s2 σ H2 _ J2 q2) fun w2 s3 ⟨y, H3, J3, ry, c, k, ex, h1, h2, q3⟩ => pairTrees_nil_walk ?_)
  subst ex
  cases rx
  obtain ⟨z, nm, ys, rel, dd⟩ := dt_of J3.hok h1
  cases rel
  have key : (tupleKind (mixKind X.prog X.w)).is s3.heap k c := key_of J3.hok h2
  refine ⟨[(k, c, w2)], ⟨rfl, rfl, key, trivial⟩, dd, fun h' tk' dh sb => wpAny_pure ⟨.ref s.heap.objs.size, _, ?_, rfl, q3⟩⟩
  have ne : c ≠ s.heap.objs.size := fun e => by
    rw [e, h1] at h2
    cases h2
  have hex : ∃ o, h'.get? s.heap.objs.size = some o := let ⟨o, _, _, e, _⟩ := dh; ⟨o, e⟩
  exact d_write J3 (by rw [h1]; exact True.intro) sb hex (dt_put (by show 1 ≤ sizeLine; decide) nm (.cons ⟨rfl, by rw [upd_ne ne]; exact h2, ry⟩ .nil) dh)
end
section
variable {K : PySem.W.Frag} {F G : Hp} {α : Nat → Addr} {S : DSt} {σ : L2.St} {H : Hp}
theorem gx_out' {G' : Hp} {p : Addr} {o : HO} (g : GX (upd F p o) G G') (h : G p = none) (s : Same G' H) (hp : H p = some o) (hn : ∀ xs, o ≠ .tup xs) : G' p = none := by
  cases e : G' p with
  | none => rfl
  | some o' =>
    obtain ⟨xs, rfl⟩ := g.2 p o' (by rw [upd_same]; exact fun z => nomatch z) h e
    have := s p _ e
    rw [hp] at this
    cases this
    exact (hn xs rfl).elim
theorem upd_hid {p : Addr} {o : HO} : upd (hid H p) p o = upd H p o := by
  funext c
  by_cases e : c = p
  · rw [e, upd_same, upd_same]
  · rw [upd_ne e, upd_ne e, hid_ne e]
/-- a tuple that stands in the heap counts as data -/
theorem Rl.adopt (R : Rl K F G α S σ H) {q : Addr} {xs : List V} (h : H q = some (.tup xs)) : ∃ G', GX F G G' ∧ Rl K F G' α S σ H ∧ G' q = some (.tup xs) := by
  cases e : G q with
  | some o =>
    have := R.fG q o e
    rw [h] at this
    cases this
    exact ⟨G, .refl, R, e⟩
  | none =>
    have sg : Same G (upd G q (.tup xs)) := same_upd e
    refine ⟨_, ⟨sg, fun a o _ h1 h2 => ?_⟩, ⟨R.fF, fun b x e2 => ?_, R.ln, fun i u hu => ?_, fun n mo hm => ?_, R.inj⟩, upd_same⟩
    · by_cases ha : a = q
      · rw [ha, upd_same] at h2
        cases h2
        exact ⟨xs, rfl⟩
      · rw [upd_ne ha, h1] at h2
        cases h2
    · by_cases hb : b = q
      · rw [hb, upd_same] at e2
        cases e2
        rw [hb]
        exact h
      · rw [upd_ne hb] at e2
        exact R.fG b x e2
    · obtain ⟨v, e1, uv⟩ := R.sl i u hu
      exact ⟨v, e1, uv.on sg fun n l => ⟨rfl, l⟩⟩
    · obtain ⟨h1, h2, o, h3, h4⟩ := R.mu n mo hm
      have ne : α n ≠ q := fun z => by
        rw [z, h] at h3
        cases h3
        cases mo with
        | lst ds => obtain ⟨vs, e5, _⟩ := h4; cases e5
        | dic t ks ds => cases t <;> (obtain ⟨kvs, e5, _⟩ := h4; cases e5)
        | lsu us => obtain ⟨vs, e5, _⟩ := h4; cases e5
        | ins C ns ds => obtain ⟨dx, vs, e5, _⟩ := h4; cases e5
      exact ⟨h1, by rw [upd_ne ne]; exact h2, o, h3, h4.on sg fun n l => ⟨rfl, l⟩⟩
/-- a new dict that stays as it is -/
theorem Rl.lkd (R : Rl K F G α S σ H) {p : Addr} {o : Obj} {ps : Ps} {kvs : List (List Key × V)} (h : H p = none) (hk : PsV K G ps kvs) : ∃ G', GX F G G' ∧ Rl K F G' α S σ (upd H p (.frz o (.dT kvs))) ∧ Dat K G' (.lkd (kOf ps) (vOf ps)) (.ref p) := by
  obtain ⟨g, R'⟩ := R.dat (o := .frz o (.dT kvs)) h (R.apart h)
  refine ⟨_, g, R', ?_⟩
  rw [hk.keys]
  exact .lkd upd_same (hk.vals.mono g.1)
end
section
variable {X : Cx} {a b : Expr} {S S1 S2 S3 : DSt} {u z : U} {ps : Ps} {ns : List Int} {d : D} {pos : Pos}
theorem de_disp1 (hu : X.A.units + 1 < cLine) (ha : DE X a S (.dat (.tup (ns.map .int))) S1) (hb : DE X b S1 (.dat d) S2) (hm : Made S2 (.pd [(ns, d)]) z S3) : DE X (.Dict [some a] [b] pos) S z S3 :=
  PE.wk (pe_disp1 hu ha hb) fun σ H Q ⟨F, G, α, R, k⟩ p hp => by
    have fp : F p = none := R.fF.free hp
    have gp : G p = none := R.fG.free hp
    refine ⟨_, G, α, R.frame hp, fun v G1 α1 H1 g1 a1 R1 uv => ⟨_, G1, α1, R1, fun y G2 α2 H2 g2 a2 R2 uy => ?_⟩⟩
    have g12 := g1.trans g2
    have hp2 : H2 p = some (.dT []) := R2.fF p _ upd_same
    have gn : G2 p = none := gx_out' g12 gp R2.fG hp2 fun _ z => nomatch z
    obtain ⟨b', rfl, h3⟩ := of_key (Dat.mono g2.1 _ _ uv)
    have R3 := R2.unframe fp gn
    obtain ⟨G4, α4, g4, a4, R4, u4⟩ := R3.made hid_same (o := .dT [(ik ns, y)]) (mv_pd (ps := [(ns, d)]) (.cons uy .nil)) hm
    rw [upd_hid] at R4
    exact ⟨b', ik ns, rfl, hp2, R2.fG _ _ h3, k _ G4 α4 _ ((g12.less upd_dom).trans g4) (a1.trans (a2.trans a4)) R4 u4⟩
/-! ### dict(pairs) -/
def pairD (p : List Int × D) : D := .tup [.tup (p.1.map .int), p.2]
def rDictP : List V → Hp → VK → Prop := fun xs H Q => ∃ (l : Addr) (vs : List V) (kvs : List (List Key × V)), xs = [.ref l] ∧ H l = some (.lst vs) ∧ kvs.length ≤ 100000 ∧
  Paired (fun x (kv : List Key × V) => ∃ t q, x = V.ref t ∧ H t = some (.tup [.ref q, kv.2]) ∧ H q = some (.tup (kv.1.map kV))) vs kvs ∧ ∀ p, H p = none → Q (.ref p) (upd H p (.dT (merge [] kvs)))
theorem tk_stay {P : Program} {w : World} {h h' : Heap} {k : List Key} {c : Addr} (x : (tupleKind (mixKind P w)).is h k c) (e : ∀ o, h.get? c = some o → h'.get? c = some o) : (tupleKind (mixKind P w)).is h' k c := by
  obtain ⟨o, its, n, h1, h2⟩ := x
  exact ⟨o, its, n, e o h1, h2⟩
theorem tk_lt {P : Program} {w : World} {h : Heap} {k : List Key} {c : Addr} (x : (tupleKind (mixKind P w)).is h k c) : c < h.objs.size := by
  obtain ⟨o, its, n, h1, h2⟩ := x
  exact Heap.lt_size h1
theorem kt_all {H : Hp} : ∀ {ps : List (List Key × V)} {qs : List (List Key × Addr × Value)}, KT H ps qs → ∀ {kvs : List (List Key × V)} {xs : List (List Key × Addr × Value)}, KT H kvs xs → KT H (merge kvs ps) (storedAllH xs qs)
  | [], _, h, kvs, xs, t => by
    cases h
    exact t
  | p :: ps, _, h, kvs, xs, t => by
    cases h with
    | @cons _ q _ qs h1 h2 =>
      obtain ⟨e1, e2, e3⟩ := h1
      have t' : KT H (put kvs p.1 p.2) (storedH xs q.1 q.2.1 q.2.2) := by
        have := KT.put t p.1 e2 e3
        rw [← e1]
        exact this
      exact kt_all h2 t'
theorem pairs_raw {K : PySem.W.Frag} {pins : List (Addr × Obj)} {σ : L2.St} {H : Hp} {s : Shared} (J : L2.Inv X pins σ H s) : ∀ {vs : List V} {kvs : List (List Key × V)} {us : List Value}, Vals vs us →
    Paired (fun x (kv : List Key × V) => ∃ t q, x = V.ref t ∧ H t = some (.tup [.ref q, kv.2]) ∧ H q = some (.tup (kv.1.map kV))) vs kvs →
    ∃ (ts : List Addr) (qs : List (List Key × Addr × Value)), us = ts.map Value.ref ∧ ts.length = kvs.length ∧ KT H kvs qs ∧ (∀ x ∈ qs, (tupleKind (mixKind X.prog X.w)).is s.heap x.1 x.2.1) ∧
      ∀ (j : Nat) (q : List Key × Addr × Value), qs[j]? = some q → ∃ t, ts[j]? = some t ∧ PairAt s.heap t (.ref q.2.1) q.2.2
  | [], [], _, r, .nil => by
    cases r
    exact ⟨[], [], rfl, rfl, .nil, (fun x h => nomatch h), fun j q e => by simp at e⟩
  | v :: vs, kv :: kvs, _, r, .cons h t => by
    cases r with
    | @cons _ u _ us r1 r2 =>
      obtain ⟨ts, qs, e1, e2, e3, e4, e5⟩ := pairs_raw (K := K) J r2 t
      obtain ⟨t0, q0, rfl, h1, h2⟩ := h
      cases r1
      obtain ⟨zt, its, rv, o, g1, g2, n, g3⟩ := (show ObjOk X.prog X.w H s.heap t0 (.tup [.ref q0, kv.2]) from J.hok t0 _ h1)
      obtain ⟨w1, w2, rfl, rw1, rw2⟩ := vals2 rv
      cases rw1
      refine ⟨t0 :: ts, (kv.1, q0, w2) :: qs, by rw [e1]; rfl, by rw [List.length_cons, List.length_cons, e2], .cons ⟨rfl, h2, rw2⟩ e3, fun x hx => ?_, fun j q e => ?_⟩
      · rcases List.mem_cons.mp hx with z | z
        · rw [z]
          exact key_of J.hok h2
        · exact e4 x z
      · cases j with
        | zero =>
          have e : (kv.1, q0, w2) = q := Option.some.inj e
          subst e
          exact ⟨t0, rfl, .inl ⟨o, g1, g2, n, g3⟩⟩
        | succ j =>
          obtain ⟨t1, f1, f2⟩ := e5 j q (by simpa using e)
          exact ⟨t1, by simpa using f1, f2⟩
theorem call_dictPT (hc : X.calm = true) (hu : X.A.units + 8 < cLine) : CallR X (.type "dict") rDictP := by
  rintro pins s σ H xs us Q J r ⟨l, vs, kvs, rfl, hl, hz, hp, q⟩
  obtain ⟨w1, rfl, rx⟩ := vals1 r
  cases rx
  obtain ⟨zl, its, n, rl, hl2, el⟩ := J.lstM hl
  obtain ⟨ts, qs, e1, e2, e3, e4, e5⟩ := pairs_raw (K := X.K) J rl hp
  have eq : qs.length = kvs.length := (Paired.length e3).symm
  have pa := PairArg.list (prog := X.prog) (w := X.w) l its.toArray (fun i => ts.getD i 0) (qs.map fun x => (Value.ref x.2.1, x.2.2))
  refine call_dict_pairsH (knd := tupleKind (mixKind X.prog X.w)) (ps := qs) pa (J.ok.hd hc) (show X.A.units + 2 < cLine by omega) ⟨⟨_, n, el, rfl, rfl, rfl⟩, ?_, ?_⟩ ⟨by rw [List.length_map], ?_⟩ (fun h' st x hx => ?_) (by rw [List.length_map, eq, sizeLine_eq]; omega) fun h' tk dh kp => ?_
  · rw [e1, List.size_toArray, List.length_map, List.length_map, e2, eq]
  · intro j k v hj
    rw [List.getElem?_map] at hj
    cases hq : qs[j]? with
    | none => rw [hq] at hj; cases hj
    | some x =>
      rw [hq] at hj
      cases hj
      obtain ⟨t, f1, f2⟩ := e5 j x hq
      refine ⟨?_, ?_⟩
      · rw [e1]
        simp [f1]
      · simp [f1]
        exact f2
  · intro i key v hi
    have hi : (qs.map fun x => (Value.ref x.2.1, x.2.2))[i]? = some (key, v) := hi
    rw [List.getElem?_map] at hi
    cases hq : qs[i]? with
    | none => rw [hq] at hi; cases hi
    | some x =>
      rw [hq] at hi
      cases hi
      exact ⟨x.1, x.2.1, rfl, rfl⟩
  · have := e4 x hx
    exact tk_stay this fun o e => st _ o (Nat.ne_of_lt (tk_lt this)) (by simp) e
  · have hn := J.hok.fresh (Nat.le_refl s.heap.objs.size)
    refine ⟨.ref s.heap.objs.size, _, J.laid (a := s.heap.objs.size) (o := .dT (merge [] kvs)) (t' := tk) (fun b o e => kp b o (by simp) e) (Nat.le_refl _) (dt_put ?_ (beq_eq_false_iff_ne.mpr (Ne.symm (Nat.ne_of_lt J.big))) (kt_all (KT.keeps e3 fun b ys e => by rw [upd_ne (ne_of_none e hn)]; exact e) .nil) dh), rfl, q _ hn⟩
    have := merge_len (m := kvs) (l := [])
    simp only [List.length_nil] at this
    rw [sizeLine_eq]
    omega
theorem PsV.merge {K : PySem.W.Frag} {G : Hp} : ∀ {qs : Ps} {lvs : List (List Key × V)}, PsV K G qs lvs → ∀ {ps : Ps} {kvs : List (List Key × V)}, PsV K G ps kvs → PsV K G (merge ps qs) (merge kvs lvs)
  | _, _, .nil, _, _, h => h
  | _, _, .cons d t, _, _, h => PsV.merge t (h.put d)
theorem pairs_at {K : PySem.W.Frag} {G : Hp} : ∀ {ps : Ps} {vs : List V}, Dats K G (ps.map pairD) vs → ∃ kvs, PsV K G ps kvs ∧ Paired (fun x (kv : List Key × V) => ∃ t q, x = V.ref t ∧ G t = some (.tup [.ref q, kv.2]) ∧ G q = some (.tup (kv.1.map kV))) vs kvs
  | [], vs, h => by
    rw [of_dats0 h]
    exact ⟨[], .nil, .nil⟩
  | (ns, d) :: ps, vs, h => by
    obtain ⟨v, r, rfl, h1, h2⟩ := of_dats h
    obtain ⟨t, ws, rfl, g1, g2⟩ := of_tup h1
    obtain ⟨x, r1, rfl, d1, g3⟩ := of_dats g2
    obtain ⟨y, r2, rfl, d2, g4⟩ := of_dats g3
    have e := of_dats0 g4
    subst e
    obtain ⟨q, rfl, g5⟩ := of_key d1
    obtain ⟨kvs, p1, p2⟩ := pairs_at h2
    exact ⟨(ik ns, y) :: kvs, .cons d2 p1, .cons ⟨t, q, rfl, g1, g5⟩ p2⟩
theorem de_dictP {p : Pos} (hc : X.calm = true) (hu : X.A.units + 8 < cLine) (hm : X.mg "dict" = none) (ha : DE X a S u S1) (l : LU S1.m u (ps.map pairD)) (hz : ps.length ≤ 100000) (hM : Made S1 (.pd (merge [] ps)) z S2) (hg : Gl X "dict" := by rfl)
    (he : starEach [a] X.env = (false, eval a X.env) :: starEach [] X.env := by rfl) : DE X (.Call (.Name "dict" p) [a] [] pos) S z S2 :=
  de_callTy (call_dictPT hc hu) hm PyProof.Rows.boot_dict (da_cons ha da_nil he) (fun F G α σ H vs Q R hv k => by
    obtain ⟨v, r, rfl, h1, h2⟩ := hv
    have e : r = [] := h2
    subst e
    obtain ⟨c, ws, rfl, h3, h4⟩ := l.real R h1
    obtain ⟨kvs, p1, p2⟩ := pairs_at h4
    refine ⟨c, ws, kvs, rfl, h3, by rw [p1.len]; exact hz, ?_, fun p hp => ?_⟩
    · clear p1 h3 h4
      induction p2 with
      | nil => exact .nil
      | cons h t ih =>
        obtain ⟨t0, q0, e1, e2, e3⟩ := h
        exact .cons ⟨t0, q0, e1, R.fG _ _ e2, R.fG _ _ e3⟩ ih
    · obtain ⟨G4, α4, g4, a4, R4, u4⟩ := R.made hp (o := .dT (merge [] kvs)) (mv_pd (PsV.merge p1 .nil)) hM
      exact k _ G4 α4 _ g4 a4 R4 u4) hg (by decide) (by decide) he
end
end DL
/-! DK: walks over dicts with tuple keys, their comprehensions, sets. -/
namespace DL
open PySem PySem.Spec PyProof.Rows L2
/-! ### walks over locked dicts -/
section
variable {K : PySem.W.Frag} {F G : Hp} {α : Nat → Addr} {S : DSt} {σ : L2.St} {H : Hp}
def keysD (ps : Ps) : List D := ps.map fun p => .tup (p.1.map .int)
theorem PsV.at {ps : Ps} {kvs : List (List Key × V)} (h : PsV K G ps kvs) : ∀ {i : Nat} {p : List Int × D}, ps[i]? = some p → ∃ v, kvs[i]? = some (ik p.1, v) ∧ Dat K G p.2 v := by
  induction h with
  | nil => intro i p e; simp at e
  | @cons ns d ps v kvs hd _ ih =>
    intro i p e
    cases i with
    | zero =>
      have e : (ns, d) = p := by simpa using e
      subst e
      exact ⟨v, rfl, hd⟩
    | succ i => simpa using ih (by simpa using e)
theorem dat_key {ns : List Int} {q : Addr} (h : G q = some (.tup ((ik ns).map kV))) : Dat K G (.tup (ns.map .int)) (.ref q) := by
  rw [ik_kV] at h
  exact .tup h (ints_dats ns)
theorem src_keys {a : Addr} {o : Obj} {ps : Ps} {kvs : List (List Key × V)} : Src K (Itkt a o kvs) (keysD ps) (fun G' => G' a = some (.frz o (.dT kvs)) ∧ PsV K G' ps kvs) where
  mono := fun e h => ⟨e _ _ h.1, h.2.mono e⟩
  go := fun {F G α S σ H i d} R h e => by
    have hl := h.2.len
    unfold keysD at e
    rw [List.getElem?_map] at e
    cases hp : ps[i]? with
    | none => rw [hp] at e; cases e
    | some p =>
      rw [hp] at e
      cases e
      obtain ⟨v, e1, _⟩ := h.2.at hp
      refine ⟨⟨R.fG _ _ h.1, (List.getElem?_eq_some_iff.mp e1).1⟩, fun x H' ⟨q, k, v', b, y1, y2, y3⟩ => ?_⟩
      subst q y2
      rw [e1] at y1
      cases y1
      obtain ⟨G', g, R', e'⟩ := R.adopt y3
      exact ⟨G', g, R', dat_key e'⟩
  stop := fun R h => ⟨R.fG _ _ h.1, by rw [h.2.len]; unfold keysD; rw [List.length_map]; exact Nat.le_refl _⟩
/-- the pairs, each a new tuple -/
def Itit (d : Addr) (o : Obj) (kvs : List (List Key × V)) : It :=
  ⟨fun i H => H d = some (.frz o (.dT kvs)) ∧ i < kvs.length, fun i H x H' => ∃ (T q : Addr) (k : List Key) (v : V), kvs[i]? = some (k, v) ∧ x = .ref T ∧ H q = some (.tup (k.map kV)) ∧ H T = none ∧ H' = upd H T (.tup [.ref q, v]), fun i H => H d = some (.frz o (.dT kvs)) ∧ kvs.length ≤ i⟩
def itemsD (ps : Ps) : List D := ps.map pairD
theorem src_items {a : Addr} {o : Obj} {ps : Ps} {kvs : List (List Key × V)} : Src K (Itit a o kvs) (itemsD ps) (fun G' => G' a = some (.frz o (.dT kvs)) ∧ PsV K G' ps kvs) where
  mono := fun e h => ⟨e _ _ h.1, h.2.mono e⟩
  go := fun {F G α S σ H i d} R h e => by
    unfold itemsD at e
    rw [List.getElem?_map] at e
    cases hp : ps[i]? with
    | none => rw [hp] at e; cases e
    | some p =>
      rw [hp] at e
      cases e
      obtain ⟨v, e1, dv⟩ := h.2.at hp
      refine ⟨⟨R.fG _ _ h.1, (List.getElem?_eq_some_iff.mp e1).1⟩, fun x H' ⟨T, b, k, v', y1, y2, y3, y4, y5⟩ => ?_⟩
      subst y2 y5
      rw [e1] at y1
      cases y1
      obtain ⟨G', g, R', e'⟩ := R.adopt y3
      obtain ⟨G2, g2, R2, d2⟩ := R'.madeT y4 (ds := [.tup (p.1.map .int), p.2]) (.cons (dat_key e') (.cons (Dat.mono g.1 _ _ dv) .nil))
      exact ⟨G2, g.trans g2, R2, d2⟩
  stop := fun R h => ⟨R.fG _ _ h.1, by rw [h.2.len]; unfold itemsD; rw [List.length_map]; exact Nat.le_refl _⟩
end
section
variable {X : Cx} {tg e : Expr} {S S1 : DSt} {ps : Ps} {pos : Pos}
theorem di_keys (h : DE X e S (.dat (.lkd (kOf ps) (vOf ps))) S1) : DI X tg e S (keysD ps) S1 :=
  PI.wk (pi_keys h) fun σ H Q ⟨F, G, α, R, k⟩ => ⟨F, G, α, R, fun v G1 α1 H1 g1 a1 R1 uv => by
    obtain ⟨a, o, kvs, rfl, h1, h2, h3⟩ := of_lkd (show Dat X.K G1 (.lkd _ _) v from uv)
    exact ⟨a, o, rfl, .inr ⟨kvs, R1.fG _ _ h1, k _ _ G1 α1 H1 g1 a1 R1 src_keys ⟨h1, psV_of h2 h3⟩⟩⟩⟩
theorem frz_ents {pins : List (Addr × Obj)} {σ : L2.St} {H : Hp} {s : Shared} {d : Addr} {o : Obj} {kvs : List (List Key × V)} (J : L2.Inv X pins σ H s) (h : H d = some (.frz o (.dT kvs))) :
    (d == sysModules) = false ∧ s.heap.get? d = some o ∧ o.ExactDict ∧ ∃ (es : Array DictEntry) (ep : Nat), o.data = .dict es ep ∧ es.size = kvs.length ∧
      ∀ (i : Nat) (k : List Key) (v : V), kvs[i]? = some (k, v) → ∃ (en : DictEntry) (q : Addr), es[i]? = some en ∧ en.key = .ref q ∧ H q = some (.tup (k.map kV)) ∧ RelV v en.val := by
  obtain ⟨e0, z, nm, xs, pr, o2, es, ep, e1, e2, e3, e4, _⟩ := J.hok d _ h
  rw [e0] at e1
  cases e1
  refine ⟨nm, e0, e2, es, ep, e3, ?_, fun i k v e => ?_⟩
  · rw [size_of_entries e4]
    exact (Paired.length pr).symm
  · obtain ⟨b, hb, f1, f2, f3⟩ := L2.paired_get pr e
    have q := entry_at e4 i
    rw [hb] at q
    exact ⟨_, b.2.1, q, rfl, f2, f3⟩
theorem turn_itemsT {P : Program} {w : World} {K : PySem.W.Frag} {d : Addr} {o : Obj} {es : Array DictEntry} {ep : Nat} {kvs : List (List Key × V)} {elts : List Expr} {kk : Nat} {tpos : Pos} (it : Addr) (hod : o.data = .dict es ep) :
    Turn P w K (.Tuple elts kk tpos) (Itit d o kvs) [it] it (fun i h => ∃ ok ov, IsItemIter h it d i kvs.length ep ok ov) where
  mem := List.mem_singleton.mpr rfl
  obj := fun i h ⟨ok, ov, e⟩ b hb => by
    rw [List.mem_singleton.mp hb]
    exact ⟨_, e, fun v z => nomatch z⟩
  keep := fun i h h' ⟨ok, ov, e⟩ k => ⟨ok, ov, k it (List.mem_singleton.mpr rfl) _ e⟩
  item := by
    intro X hP hw hK hc i pins s σ H E J hf st hg
    subst hP hw hK
    obtain ⟨hd, hi⟩ := hg
    obtain ⟨nm, e0, e2, es', ep', e3, sz, ents⟩ := frz_ents J hd
    obtain ⟨rfl, rfl⟩ := dict_ep hod e3
    obtain ⟨ok, ov, he⟩ := st
    obtain ⟨⟨k, v⟩, hkv⟩ : ∃ p, kvs[i]? = some p := ⟨kvs[i], List.getElem?_eq_getElem hi⟩
    obtain ⟨en, q, n1, n2, n3, n4⟩ := ents i k v hkv
    have hlt : it < s.heap.objs.size := Heap.lt_size he
    rw [← sz] at he
    have hi' : i < es'.size := by omega
    have hen : es'[i] = en := by
      rw [Array.getElem?_eq_getElem hi'] at n1
      exact Option.some.inj n1
    refine DT.nextI he ⟨o, e0, e2, e3⟩ hi' fun h' ho hT hz hk => ⟨_, rfl, wpAny_letOwnedTupleGo_items (s := { s with heap := h' }) ho fun h'' he' sb => ?_⟩
    rw [hen] at hT
    have hT2 : h''.get? s.heap.objs.size = some { cls := .type "tuple", data := .seq #[en.key, en.val] } := (sb.2 _ (Nat.ne_of_gt hlt)).trans hT
    have nw : ObjOk X.prog X.w (upd H s.heap.objs.size (.tup [.ref q, v])) h'' s.heap.objs.size (.tup [.ref q, v]) :=
      ⟨by show 2 ≤ sizeLine; decide, [en.key, en.val], .cons n2 (.cons n4 .nil), ⟨_, hT2, rfl, _, rfl⟩⟩
    have J1 : L2.Inv X pins σ (upd H s.heap.objs.size (.tup [.ref q, v])) { s with heap := h'' } :=
      J.turnedNew (t' := s.toks) (ch := [it]) (fun b ob hb e => (sb.2 b (fun z => hb (by rw [z]; exact List.mem_singleton.mpr rfl))).trans (hk b ob (fun z => hb (by rw [z]; exact List.mem_singleton.mpr rfl)) e)) hf (Nat.le_refl _) nw
    refine ⟨.ref s.heap.objs.size, _, J1, rfl, ⟨_, q, k, v, hkv, rfl, n3, J.hok.fresh (Nat.le_refl _), rfl⟩, ⟨es'[i].key, es'[i].val, by rw [← sz]; exact he'⟩, fun b hb => ?_⟩
    rw [List.mem_singleton.mp hb, upd_ne (Nat.ne_of_lt hlt)]
    exact (hf it (List.mem_singleton.mpr rfl)).1
  done := by
    intro X hP hw hK hc i pins s σ H E J hf st hg
    subst hP hw hK
    obtain ⟨hd, hi⟩ := hg
    obtain ⟨f0, f1, f2, f3, f4, f5⟩ := hf it (List.mem_singleton.mpr rfl)
    obtain ⟨nm, e0, e2, es', ep', e3, sz, ents⟩ := frz_ents J hd
    obtain ⟨rfl, rfl⟩ := dict_ep hod e3
    obtain ⟨ok, ov, he⟩ := st
    rw [← sz] at he
    exact DT.endI (J.ok.hd hc) he ⟨o, e0, e2, e3⟩ (by omega) fun h' eb => ⟨rfl, J.turned (t' := s.toks) (fun b ob hb e => eb b ob hb e) f0 f1 f3 f4 f5⟩
  self := fun A i s Q E ⟨_, _, e⟩ h => PySem.W.kcp_self e h
def iItemsT (td : TE) : TI := fun σ H R => td σ H fun x H1 => ∃ d o kvs, x = .ref d ∧ H1 d = some (.frz o (.dT kvs)) ∧ R (Itit d o kvs) H1
theorem pi_itemsT {td : TE} {elts : List Expr} {kk : Nat} {tpos apos cpos : Pos} (he : PE X e td) (hbase : attributeBase e "items" X.env (eval e X.env) = eval e X.env := by rfl) (hline : (apos.endLine == cpos.line) = true := by rfl) :
    PI X (.Tuple elts kk tpos) (.Call (.Attribute e "items" apos) [] [] cpos) (iItemsT td) := by
  refine ⟨fun pins s σ H R J h => ?_⟩
  refine wpAny_Call_method (T := "dict") (id := "dict.items") hbase rfl hline F.plainAttrs_dict F.slot_dict_items F.type_dict_items (thn (he.run pins s σ H _ J h) fun u s1 ⟨x, H1, J1, rx, d, o, kvs, ex, hd, q⟩ => ?_)
  subst ex
  obtain rfl : u = Value.ref d := rx
  obtain ⟨nm, e0, e2, es, ep, e3, sz, _⟩ := frz_ents J1 hd
  have raw : DT.Raw s1.heap d es ep := ⟨o, e0, e2, e3⟩
  refine ⟨raw.typeIs, fun b z => by cases z; exact ⟨o, e0, e2.2.1⟩, ?_⟩
  show wpAny _ _ (callWith cpos (.builtin "dict.items") [.ref d] [] []) _ X.xe s1
  refine method_meetsIn F.slot_dict_items F.entry_dict_items rfl (PySem.evalArgs_none ⟨rfl, raw.typeIs, F.args_dict_items_1 _, _, DT.meetsItems (es := es) (ep := ep) nm, raw, ?_⟩)
  have J2 : L2.Inv X pins σ H1 { s1 with heap := s1.heap.push { cls := .type "dict_items", data := .fields #[.ref d] } } := J1.kept (t' := s1.toks) fun b ob q => Heap.get?_push_of_some _ q
  refine DT.iterI (d := d) ⟨_, Heap.get?_push_size _ rfl, rfl, rfl⟩ (raw.push _) (pi_one (tk := s1.toks) J2 _ (turn_itemsT _ e3) ⟨.none, .none, ?_⟩ q)
  rw [← sz]
  exact Heap.get?_push_size _ rfl
theorem di_items {elts : List Expr} {kk : Nat} {tpos apos cpos : Pos} (h : DE X e S (.dat (.lkd (kOf ps) (vOf ps))) S1) (hbase : attributeBase e "items" X.env (eval e X.env) = eval e X.env := by rfl) (hline : (apos.endLine == cpos.line) = true := by rfl) :
    DI X (.Tuple elts kk tpos) (.Call (.Attribute e "items" apos) [] [] cpos) S (itemsD ps) S1 :=
  PI.wk (pi_itemsT h hbase hline) fun σ H Q ⟨F, G, α, R, k⟩ => ⟨F, G, α, R, fun v G1 α1 H1 g1 a1 R1 uv => by
    obtain ⟨a, o, kvs, rfl, h1, h2, h3⟩ := of_lkd (show Dat X.K G1 (.lkd _ _) v from uv)
    exact ⟨a, o, kvs, rfl, R1.fG _ _ h1, k _ _ G1 α1 H1 g1 a1 R1 src_items ⟨h1, psV_of h2 h3⟩⟩⟩
end
/-! ### locking for good -/
def tLockV (t : TE) : TE := fun σ H Q => t σ H fun v H1 => ∃ d u, v = .ref d ∧ H1 d = some u ∧ Mut (some u) ∧ ∀ od, Q v (upd H1 d (.frz od u))
theorem pe_lockv {X : Cx} {e : Expr} {t : TE} (h : PE X e t) : PE X e (tLockV t) := ⟨fun pins s σ H Q J hw => thn (h.run pins s σ H _ J hw) fun v s1 ⟨x, H1, J1, r, d, u, _, hd, mu, q⟩ => by
  obtain ⟨od, J2⟩ := J1.lock hd mu
  exact ⟨x, _, J2, r, q od⟩⟩
theorem upd_twice {H : Hp} {p : Addr} {o o' : HO} : upd (upd H p o) p o' = upd H p o' := by
  funext c
  by_cases e : c = p
  · rw [e, upd_same, upd_same]
  · rw [upd_ne e, upd_ne e, upd_ne e]
section
variable {X : Cx} {a e : Expr} {S S1 S2 : DSt} {ps : Ps} {pos : Pos} {n : Nat} {sts : List Stmt} {u : U}
theorem runs_retLk (h : DE X e S (.own n) S1) (hm : S1.m[n]? = some (some (.pd ps))) : Runs X (.Return (some e) pos :: sts) S (.dat (.lkd (kOf ps) (vOf ps))) := by
  refine ⟨.rt (.dat (.lkd (kOf ps) (vOf ps))) ⟨List.replicate S1.g.length none, []⟩, dss_out (PS.wk (ps_ret (pe_lockv h)) fun E σ H ⟨F, G, α, R, k⟩ => ⟨F, G, α, R, fun v G1 α1 H1 g1 a1 R1 uv => ?_⟩) rfl, .dat⟩
  obtain ⟨f1, gn, o, h3, h4⟩ := R1.mu n _ hm
  obtain ⟨kvs, rfl, h5⟩ := pd_mv h4
  refine ⟨α1 n, .dT kvs, uv.1, h3, True.intro, fun od => k v (upd G1 (α1 n) (.frz od (.dT kvs))) α1 σ _ (g1.trans ⟨same_upd gn, fun c x hF hG h2 => ?_⟩) a1.1 ⟨same_keep R1.fF f1, same_both R1.fG, ?_, fun i w hw => ?_, fun j mo hj => ?_, fun j l ⟨mo, hj⟩ => ?_⟩ ?_⟩
  · have hc : c ≠ α1 n := fun z => hF (by rw [z]; exact f1)
    rw [upd_ne hc, hG] at h2
    cases h2
  · rw [List.length_replicate]
    exact R1.ln
  · have hw : (List.replicate S1.g.length (none : Option U))[i]? = some (some w) := hw
    rw [List.getElem?_replicate] at hw
    split at hw <;> cases hw
  · cases hj
  · cases hj
  · rw [uv.1, h5.keys]
    exact Dat.lkd upd_same (h5.vals.mono (same_upd gn))
theorem de_dictL {p : Pos} (hc : X.calm = true) (hu : X.A.units + 8 < cLine) (hm : X.mg "dict" = none) (ha : DE X a S u S1) (l : LU S1.m u (ps.map pairD)) (hz : ps.length ≤ 100000) (hg : Gl X "dict" := by rfl)
    (he : starEach [a] X.env = (false, eval a X.env) :: starEach [] X.env := by rfl) : DE X (.Call (.Name "dict" p) [a] [] pos) S (.dat (.lkd (kOf (merge [] ps)) (vOf (merge [] ps)))) S1 :=
  PE.wk (pe_lockv (pe_callTy (call_dictPT hc hu) hg hm PyProof.Rows.boot_dict (da_cons ha da_nil he) (by decide) (by decide) he rfl)) fun σ H Q ⟨F, G, α, R, k⟩ => ⟨F, G, α, R, fun vs G1 α1 H1 g1 a1 R1 hv => by
    obtain ⟨v, r, rfl, h1, h2⟩ := hv
    have e : r = [] := h2
    subst e
    obtain ⟨c, ws, rfl, h3, h4⟩ := l.real R1 h1
    obtain ⟨kvs, p1, p2⟩ := pairs_at h4
    refine ⟨c, ws, kvs, rfl, h3, by rw [p1.len]; exact hz, ?_, fun p hp => ⟨p, _, rfl, upd_same, True.intro, fun od => ?_⟩⟩
    · clear p1 h3 h4
      induction p2 with
      | nil => exact .nil
      | cons h t ih =>
        obtain ⟨t0, q0, e1, e2, e3⟩ := h
        exact .cons ⟨t0, q0, e1, R1.fG _ _ e2, R1.fG _ _ e3⟩ ih
    · rw [upd_twice]
      obtain ⟨G4, g4, R4, d4⟩ := R1.lkd (o := od) hp (PsV.merge p1 .nil)
      exact k _ G4 α1 _ (g1.trans g4) a1 R4 d4⟩
end
/-! ### {k: v for .. in ..} -/
/-- d[k] = v by a comprehension, k a tuple -/
theorem put_key {X : Cx} {pins : List (Addr × Obj)} {σ : L2.St} {H : Hp} {s : Shared} {E : Value → Shared → Prop} {c b : Addr} {kvs : List (List Key × V)} {k : List Key} {v : V} {r : Value} {Q : Unit → Shared → Prop} (hu : X.A.units + 1 < cLine) (J : L2.Inv X pins σ H s) (hD : H c = some (.dT kvs)) (hb : H b = some (.tup (k.map kV)))
    (hz : kvs.length < sizeLine) (rv : RelV v r) (h : ∀ s', L2.Inv X pins σ (upd H c (.dT (put kvs k v))) s' → Q () s') : wpAny (model X.prog X.w) X.A (dictSet c (.ref b) r) Q E s := by
  obtain ⟨z, nm, xs, rel, dd⟩ := dt_of J.hok hD
  have el : xs.length = kvs.length := (Paired.length rel).symm
  refine wpAny_dictSet_heap (knd := tupleKind (mixKind X.prog X.w)) (k := k) (show X.A.units < cLine by omega) (key_of J.hok hb) dd (fun h' dh sb => h _ ?_) (by rw [el]; exact z)
  have hex : ∃ q, h'.get? c = some q := let ⟨q, _, _, e, _⟩ := dh; ⟨q, e⟩
  have hl : (put kvs k v).length ≤ sizeLine := by
    have := length_putK kvs k v
    rw [vput (K := X.K)] at this
    omega
  have keep : KT (upd H c (.dT (put kvs k v))) (put kvs k v) (storedH xs k b r) := KT.keeps (rel.put k hb rv) fun q ys e => by
    have ne : q ≠ c := fun z => by
      rw [z, hD] at e
      cases e
    rw [upd_ne ne]
    exact e
  exact d_write J (by rw [hD]; exact True.intro) sb hex (dt_put hl nm keep dh)
def tDcT (wi : TI) (g : TG) (tt : TT) (tk tv : TE) (vs : List Nat) : TE := fun σ H Q => wi σ H fun J H1 => ∀ c, H1 c = none → ∃ W : Nat → Nat → Hp → Prop, (∃ m, W 0 m (upd H1 c (.dT []))) ∧ ∀ i m H, W i m H →
  (J.stop i H ∧ Q (.ref c) H) ∨ (J.go i H ∧ ∃ Nx : Hp → Prop, (∀ H', Nx H' → ∃ m', m' < m ∧ W (i + 1) m' H') ∧ ∀ x H', J.yld i H x H' → g x (wipe σ vs) H' fun σ2 H2 => wipe σ2 vs = wipe σ vs ∧ tt σ2 H2 fun b H3 =>
    if b = true then tk σ2 H3 fun y H4 => tv σ2 H4 fun z H5 => ∃ kvs k b, y = .ref b ∧ H5 b = some (.tup (k.map kV)) ∧ H5 c = some (.dT kvs) ∧ kvs.length < sizeLine ∧ Nx (upd H5 c (.dT (put kvs k z))) else Nx H3)
section
variable {X : Cx} {kx vx tg iter : Expr} {ifs : List Expr} {scope : Scope} {own : List (Str × Nat)} {wi : TI} {g : TG} {tt : TT} {tk tv : TE}
/-- the loop of the block over the new dict c -/
theorem dct_loop {s3 s4 : Shared} {σ : L2.St} {H3 : Hp} {ce : Env} {fp : List Addr} {it c : Addr} {tn : Nat → Heap → Prop} {J : It} {R : Result → Shared → Prop} {W : Nat → Nat → Hp → Prop} {Fin : Hp → Prop} {pos : Pos} {m0 : Nat} (hc : X.calm = true) (hu : X.A.units + 1 < cLine)
    (T : Turn X.prog X.w X.K tg J fp it tn) (pg : PG (X.blk s3 H3 scope ce fp) tg g) (pt : PTs (X.blk s3 H3 scope ce fp) ifs tt) (pk : PE (X.blk s3 H3 scope ce fp) kx tk) (pv : PE (X.blk s3 H3 scope ce fp) vx tv)
    (J4 : L2.Inv (X.blk s3 H3 scope ce fp) [] (wipe σ (own.map (·.2))) H3 s4) (st4 : tn 0 s4.heap) (nfp : ∀ b ∈ fp, H3 b = none) (w0 : W 0 m0 H3)
    (turn : ∀ i m H, W i m H → (J.stop i H ∧ Fin H) ∨ (J.go i H ∧ ∃ Nx : Hp → Prop, (∀ H', Nx H' → ∃ m', m' < m ∧ W (i + 1) m' H') ∧ ∀ x H', J.yld i H x H' → g x (wipe σ (own.map (·.2))) H' fun σ2 H2 => wipe σ2 (own.map (·.2)) = wipe σ (own.map (·.2)) ∧ tt σ2 H2 fun b H3 =>
      if b = true then tk σ2 H3 fun y H4 => tv σ2 H4 fun z H5 => ∃ kvs k b, y = .ref b ∧ H5 b = some (.tup (k.map kV)) ∧ H5 c = some (.dT kvs) ∧ kvs.length < sizeLine ∧ Nx (upd H5 c (.dT (put kvs k z))) else Nx H3))
    (fin : ∀ s' H', L2.Inv (X.blk s3 H3 scope ce fp) [] (wipe σ (own.map (·.2))) H' s' → Fin H' → R (.ok .next) s') :
    codeAny (model X.prog X.w) X.A (.compLoop (.DictComp kx vx [⟨tg, iter, ifs, 0⟩] scope pos) 0 (.ref it) (.ref c) ce) R s4 := by
  have okFp : ∀ {σ' : L2.St} {H' : Hp} {s' : Shared}, L2.Inv (X.blk s3 H3 scope ce fp) [] σ' H' s' → (∀ b ∈ fp, H' b = none) → ∀ b ∈ fp, FpOk (X.blk s3 H3 scope ce fp) [] H' b := fun {σ' H' s'} J' hn b hb =>
    ⟨hn b hb, (J'.ok.exf b hb).1, J'.ok.exfs b hb, .inl hb, fun x d e => (J'.ok.exf b hb).2 x d e, fun p hp => absurd (show p ∈ ([] : List (Addr × Obj)) ++ [] from hp) (by simp)⟩
  refine compLoop_anyD (fun k s' => ∃ i H', L2.Inv (X.blk s3 H3 scope ce fp) [] (wipe σ (own.map (·.2))) H' s' ∧ tn i s'.heap ∧ (∀ b ∈ fp, H' b = none) ∧ W i k H') (fun k s5 ⟨i, H5, J5, st5, n5, w5⟩ => ?_) m0 ⟨0, H3, J4, st4, nfp, w0⟩
  rcases turn i k H5 w5 with ⟨stop, qq⟩ | ⟨go, Nx, hNx, step⟩
  · refine thnF (T.done (X.blk s3 H3 scope ce fp) rfl rfl rfl hc i [] s5 _ H5 (fun _ _ => False) J5 (okFp J5 n5) st5 stop) fun r s6 ⟨hr, J6⟩ => ?_
    subst hr
    exact fin s6 H5 J6 qq
  · refine thnF (T.item (X.blk s3 H3 scope ce fp) rfl rfl rfl hc i [] s5 _ H5 (fun _ _ => False) J5 (okFp J5 n5) st5 go) fun r s6 ⟨u, hr, h6⟩ => ?_
    subst hr
    refine thnF h6 fun _ s7 ⟨x, H7, J7, r7, y7, st7, n7⟩ => ?_
    have J7p := J7.pinned (okFp J7 n7) (T.obj _ _ st7)
    refine thnF (pg.run _ s7 _ H7 x u _ J7p r7 (step x H7 y7)) fun _ s8 ⟨σ8, H8, J8, e8, q8⟩ => ?_
    refine thnF (pt.run _ s8 σ8 H8 _ J8 q8) fun b s9 ⟨H9, J9, q9⟩ => ?_
    have goOn : ∀ {s' : Shared} {H' : Hp}, L2.Inv (X.blk s3 H3 scope ce fp) ([] ++ pinsAt fp s7.heap) σ8 H' s' → Nx H' → ∃ m, m < k ∧ ∃ i H', L2.Inv (X.blk s3 H3 scope ce fp) [] (wipe σ (own.map (·.2))) H' s' ∧ tn i s'.heap ∧ (∀ b ∈ fp, H' b = none) ∧ W i m H' := fun {s' H'} J' nx => by
      obtain ⟨m', lt, w'⟩ := hNx H' nx
      have stays : ∀ b ∈ fp, ∀ o, s7.heap.get? b = some o → s'.heap.get? b = some o ∧ H' b = none := fun b hb o e =>
        let z := J'.pin (b, o) (List.mem_append_right _ (List.mem_append_right _ (mem_pinsAt hb e)))
        ⟨z.1, z.2.1⟩
      have el : (wipe σ (own.map (·.2))).length = σ8.length := by rw [← e8, wipe_length]
      refine ⟨m', lt, i + 1, H', (J'.unpinned (pins := [])).weak el (fun j v e => by rw [← e8] at e; exact (wipe_some e).1), T.keep _ _ _ st7 fun b hb o e => (stays b hb o e).1, fun b hb => ?_, w'⟩
      obtain ⟨o, e, _⟩ := T.obj _ _ st7 b hb
      exact (stays b hb o e).2
    cases b with
    | false =>
      simp only [Bool.false_eq_true, if_false] at q9 ⊢
      exact goOn J9 q9
    | true =>
      simp only [if_true] at q9 ⊢
      refine thnF (pk.run _ s9 σ8 H9 _ J9 q9) fun z s10 ⟨yk, H10, J10, r10, q10⟩ => thnF (pv.run _ s10 σ8 H10 _ J10 q10) fun z2 s11 ⟨yv, H11, J11, r11, kvs, key, kb, ek, hk11, hc11, hz11, nx⟩ => ?_
      subst ek
      cases r10
      exact put_key (X := X.blk s3 H3 scope ce fp) hu J11 hc11 hk11 hz11 r11 fun s12 J12 => goOn J12 nx
theorem pe_dcT {pos : Pos} (hc : X.calm = true) (hu : X.A.units + 1 < cLine) (hN : X.N.Nodup) (hi : PI X tg iter wi) (ok : BlkOk X.N X.env.scope scope own)
    (hg : ∀ (s : Shared) (H : Hp) (C : Addr) (cl : List (Str × Addr)) (fp : List Addr), PG (X.blk s H scope (compEnvC scope cl C X.env) fp) tg g) (ht : ∀ (s : Shared) (H : Hp) (C : Addr) (cl : List (Str × Addr)) (fp : List Addr), PTs (X.blk s H scope (compEnvC scope cl C X.env) fp) ifs tt)
    (hk : ∀ (s : Shared) (H : Hp) (C : Addr) (cl : List (Str × Addr)) (fp : List Addr), PE (X.blk s H scope (compEnvC scope cl C X.env) fp) kx tk) (hv : ∀ (s : Shared) (H : Hp) (C : Addr) (cl : List (Str × Addr)) (fp : List Addr), PE (X.blk s H scope (compEnvC scope cl C X.env) fp) vx tv)
    (hs : ∀ x, foldedSetIterable iter X.env x = pure x := by intro _; rfl) : PE X (.DictComp kx vx [⟨tg, iter, ifs, 0⟩] scope pos) (tDcT wi g tt tk tv (own.map (·.2))) := by
  refine ⟨fun pins s σ H Q J h => ?_⟩
  rw [arm_eval_DictComp]
  have frees : ∀ y ∈ scope.names, y.2 = .free → ∃ c, X.env.cells.lookup y.1 = some c := fun y hy e => (ok.free y hy e).elim (fun k => J.ok.has _ (.inl k)) fun k => J.ok.has _ (.inr k)
  refine wpAny_comprehension_free rfl hs (closure_ok frees) ok.kind (fun y hy e => by rw [ok.uniq y hy, e]) (thn (hi.run pins s σ H _ J h) fun xv s1 hx => thn hx fun itv s2 h2 => ?_)
  obtain ⟨it, fp, tn, Jt, H2, e, J2, T, st2, f2, q⟩ := h2
  subst e
  refine wpAny_newObj_type (newEnv_comp ?_)
  generalize ec : s2.heap.objs.size = c
  have cn : H2 c = none := J2.hok.fresh (Nat.le_of_eq ec)
  obtain ⟨W, ⟨m0, w0⟩, turn⟩ := q c cn
  generalize es3 : ({ s2 with heap := s2.heap.push { cls := .type "dict", data := .dict #[] } } : Shared) = s3
  have hp3 : s3.heap = s2.heap.push { cls := .type "dict", data := .dict #[] } := by rw [← es3]
  have J3 : L2.Inv X pins σ (upd H2 c (.dT [])) s3 := by
    rw [← es3]
    refine J2.laid (t' := s2.toks) (fun b o e => Heap.get?_push_of_some _ e) (Nat.le_of_eq ec) ?_
    rw [← ec]
    exact dt_empty s2.heap J2.big
  have lows : ∀ b ∈ fp, b < s2.heap.objs.size := fun b hb => by
    obtain ⟨o, e, _⟩ := T.obj _ _ st2 b hb
    exact Heap.lt_size e
  have f3 : ∀ b ∈ fp, FpOk X pins (upd H2 c (.dT [])) b ∧ b < s3.heap.objs.size := fun b hb => by
    have lt := lows b hb
    refine ⟨⟨?_, (f2 b hb).2⟩, by rw [hp3, Heap.size_push]; exact Nat.lt_succ_of_lt lt⟩
    rw [upd_ne (by rw [← ec]; exact Nat.ne_of_lt lt)]
    exact (f2 b hb).1
  have st3 : tn 0 s3.heap := T.keep _ _ _ st2 fun b _ o e => by rw [hp3]; exact Heap.get?_push_of_some _ e
  have J4 := block_start J3 ok hN f3
  have pg := hg s3 (upd H2 c (.dT [])) s3.heap.objs.size (cellsFrom (s3.heap.objs.size + 1) scope.names (cloFrom X.env.cells scope.names [])) fp
  have pt := ht s3 (upd H2 c (.dT [])) s3.heap.objs.size (cellsFrom (s3.heap.objs.size + 1) scope.names (cloFrom X.env.cells scope.names [])) fp
  have pk := hk s3 (upd H2 c (.dT [])) s3.heap.objs.size (cellsFrom (s3.heap.objs.size + 1) scope.names (cloFrom X.env.cells scope.names [])) fp
  have pv := hv s3 (upd H2 c (.dT [])) s3.heap.objs.size (cellsFrom (s3.heap.objs.size + 1) scope.names (cloFrom X.env.cells scope.names [])) fp
  show codeAny _ _ (.compStart (.DictComp kx vx [⟨tg, iter, ifs, 0⟩] scope pos) 0 (.ref it) (.ref c) (compEnvC scope (cellsFrom (s3.heap.objs.size + 1) scope.names (cloFrom X.env.cells scope.names [])) s3.heap.objs.size X.env)) (compPost (model X.prog X.w) X.A X.xe none _ (.ref c) s3.heap.objs.size) { s3 with heap := pushCells (s3.heap.push { cls := .type "dict", data := .dict #[] }) scope.names }
  have nfp : ∀ b ∈ fp, (upd H2 c (.dT [])) b = none := fun b hb => (f3 b hb).1.1
  generalize ee : compEnvC scope (cellsFrom (s3.heap.objs.size + 1) scope.names (cloFrom X.env.cells scope.names [])) s3.heap.objs.size X.env = ce at J4 pg pt pk pv ⊢
  have lc : ce.locals = s3.heap.objs.size := by subst ee; rfl
  generalize e4 : ({ s3 with heap := pushCells (s3.heap.push { cls := .type "dict", data := .dict #[] }) scope.names } : Shared) = s4 at J4 ⊢
  have st4 : tn 0 s4.heap := T.keep _ _ _ st3 fun b _ o e => by rw [← e4]; exact pushCells_keeps _ _ _ _ (Heap.get?_push_of_some _ e)
  have lp := dct_loop (pos := pos) (iter := iter) (R := compPost (model X.prog X.w) X.A X.xe none (EP X pins σ Q) (.ref c) s3.heap.objs.size) hc hu T pg pt pk pv J4 st4 nfp w0 turn fun s6 H6 J6 qq => by
    have J7 : L2.Inv X pins σ H6 s6 := J3.call' (ch := fp) J6.os J6.base J6.hok J6.bare fun b hb => ⟨(f3 b hb).1.2.2.2.1, (f3 b hb).1.2.1, (f3 b hb).1.2.2.2.2.1, (f3 b hb).1.2.2.2.2.2⟩
    have nC : H6 s3.heap.objs.size = none := by
      have z : H6 ce.locals = none := J6.free
      rw [lc] at z
      exact z
    obtain ⟨m, hn, _⟩ := J6.loc
    have hn : s6.heap.Ns ce.locals m := hn
    rw [lc] at hn
    refine ⟨m, hn, fun h'' sb => ?_⟩
    obtain ⟨g0, g1, g2, g3, g4, g5⟩ := J3.fpOk (H' := H6) (Nat.le_refl _) nC
    exact ⟨.ref c, H6, J7.turned (t' := s6.toks) (fun b o hb e => (sb.2 b hb).trans e) g0 g1 g3 g4 g5, rfl, qq⟩
  exact codeAny_compStart_dict lp (T.self X.A 0 _ _ _ st4 lp)
end
inductive DcR (X : Cx) (scope : Scope) (T : Tgt) (ifs : List Expr) (kx vx : Expr) (g : List (Option U)) : List D → List (Option MO) → Ps → Ps → List (Option MO) → Prop
  | nil {m : List (Option MO)} {acc : Ps} : DcR X scope T ifs kx vx g [] m acc acc m
  | yes {d0 d : D} {ds : List D} {ns : List Int} {acc acc' : Ps} {m m' : List (Option MO)} {S1 S2 S3 S4 : DSt} : asg T d0 ⟨g, m⟩ = some S1 → BT X scope ifs S1 true S2 → BE X scope kx S2 (.dat (.tup (ns.map .int))) S3 → BE X scope vx S3 (.dat d) S4 →
      DcR X scope T ifs kx vx g ds S4.m (put acc ns d) acc' m' → DcR X scope T ifs kx vx g (d0 :: ds) m acc acc' m'
section
variable {X : Cx} {kx vx tg iter : Expr} {ifs : List Expr} {scope : Scope} {own : List (Str × Nat)} {T : Tgt} {S S1 : DSt} {ds : List D} {ps : Ps} {m' : List (Option MO)}
theorem put_len {ps : Ps} {ns : List Int} {d : D} : (put ps ns d).length ≤ ps.length + 1 := by
  unfold put
  split
  · rw [List.length_map]; omega
  · rw [List.length_append]; simp
theorem dc_run {J : It} {inv : Hp → Prop} {F G : Hp} {α : Nat → Addr} {σ : L2.St} {H : Hp} {Q : VK} {vs : List Nat} (R : Rl X.K F G α S σ H) (s : Src X.K J ds inv) (i0 : inv G) (hT : T.ins vs = true)
    (f : DcR X scope T ifs kx vx (wipeG S.g vs) ds S.m [] ps m') (hz : ds.length ≤ 1000000)
    (k : ∀ v G' α' H', GX F G G' → AX S ⟨S.g, m'⟩ α α' → Rl X.K F G' α' ⟨S.g, m'⟩ σ H' → Dat X.K G' (.lkd (kOf ps) (vOf ps)) v → Q v H') :
    ∀ c, H c = none → ∃ W : Nat → Nat → Hp → Prop, (∃ m, W 0 m (upd H c (.dT []))) ∧ ∀ i m H, W i m H →
      (J.stop i H ∧ ∃ d u, V.ref c = .ref d ∧ H d = some u ∧ Mut (some u) ∧ ∀ od, Q (.ref c) (upd H d (.frz od u))) ∨ (J.go i H ∧ ∃ Nx : Hp → Prop, (∀ H', Nx H' → ∃ m', m' < m ∧ W (i + 1) m' H') ∧ ∀ x H', J.yld i H x H' → T.rd X.K x (wipe σ vs) H' fun σ2 H2 => wipe σ2 vs = wipe σ vs ∧ anyBT X scope ifs σ2 H2 fun b H3 =>
        if b = true then anyB X scope kx σ2 H3 fun y H4 => anyB X scope vx σ2 H4 fun z H5 => ∃ kvs k b, y = .ref b ∧ H5 b = some (.tup (k.map kV)) ∧ H5 c = some (.dT kvs) ∧ kvs.length < sizeLine ∧ Nx (upd H5 c (.dT (put kvs k z))) else Nx H3) := by
  intro p hp
  have fp : F p = none := R.fF.free hp
  have gp : G p = none := R.fG.free hp
  refine ⟨fun i m H => m = ds.length - i ∧ i ≤ ds.length ∧ ∃ G' α' mi kvs acc, GX F G G' ∧ AX S ⟨S.g, mi⟩ α α' ∧ Rl X.K (upd F p (.dT kvs)) G' α' ⟨wipeG S.g vs, mi⟩ (wipe σ vs) H ∧ G' p = none ∧ PsV X.K G' acc kvs ∧ inv G' ∧ acc.length ≤ i ∧
    DcR X scope T ifs kx vx (wipeG S.g vs) (ds.drop i) mi acc ps m', ⟨_, rfl, Nat.zero_le _, G, α, S.m, [], [], .refl, .refl, (R.frame hp).wiped vs, gp, .nil, i0, Nat.le_refl _, f⟩, ?_⟩
  rintro i m H1 ⟨rfl, hi, G', α', mi, kvs, acc, g, ax, R', gn, da, iv, la, fr⟩
  by_cases hlt : i < ds.length
  · have hd : ds.drop i = ds[i] :: ds.drop (i + 1) := List.drop_eq_getElem_cons hlt
    obtain ⟨go, yl⟩ := s.go R' iv (List.getElem?_eq_getElem hlt)
    refine .inr ⟨go, fun H' => ∃ G' α' mi kvs acc, GX F G G' ∧ AX S ⟨S.g, mi⟩ α α' ∧ Rl X.K (upd F p (.dT kvs)) G' α' ⟨wipeG S.g vs, mi⟩ (wipe σ vs) H' ∧ G' p = none ∧ PsV X.K G' acc kvs ∧ inv G' ∧ acc.length ≤ i + 1 ∧
      DcR X scope T ifs kx vx (wipeG S.g vs) (ds.drop (i + 1)) mi acc ps m', fun H' hN => ⟨ds.length - (i + 1), by omega, rfl, hlt, hN⟩, fun x H' y => ?_⟩
    obtain ⟨G2, g2, R2, hx⟩ := yl x H' y
    rw [hd] at fr
    cases fr with
    | yes h1 h2 h3 h4 h5 =>
      rename_i d ns S1' S2' S3' S4'
      have m1 := asg_m h1
      refine Tgt.ok R2 hx h1 fun σ2 R3 hw => ⟨?_, _, h2, _, G2, α', R3, fun G3 α3 H3 g3 a3 R4 => iteT ⟨_, h3, _, G3, α3, R4, fun y G4 α4 H4 g4 a4 R5 uy => ⟨_, h4, _, G4, α4, R5, fun z G5 α5 H5 g5 a5 R6 uz => ?_⟩⟩⟩
      · obtain ⟨is, ws, ⟨e1, e2⟩ | ⟨js, e1, e2⟩⟩ := hw
        · subst e1 e2
          rw [wipe_set (List.contains_iff_mem.mp hT), wipe_wipe]
        · subst e1 e2
          rw [wipe_sets fun i hi => List.contains_iff_mem.mp (List.all_eq_true.mp hT i hi), wipe_wipe]
      · have hp5 : H5 p = some (.dT kvs) := R6.fF p _ upd_same
        have g15 : GX (upd F p (.dT kvs)) G' G5 := g2.trans (g3.trans (g4.trans g5))
        have n5 : G5 p = none := gx_out' g15 gn R6.fG hp5 fun _ z => nomatch z
        obtain ⟨b', rfl, h6⟩ := of_key (Dat.mono g5.1 _ _ uy)
        have aa : ∀ n, Live mi n → α5 n = α' n ∧ Live S4'.m n := fun n l => by
          have l1 : Live S1'.m n := by rw [m1]; exact l
          obtain ⟨e2, l2⟩ := a3.2 n l1
          obtain ⟨e3, l3⟩ := a4.2 n l2
          obtain ⟨e4, l4⟩ := a5.2 n l3
          exact ⟨e4.trans (e3.trans e2), l4⟩
        have RB := Rl.back R' R6 g15.1 aa
        exact ⟨kvs, ik ns, b', rfl, R6.fG _ _ h6, hp5, by rw [da.len, sizeLine_eq]; omega, G5, α5, S4'.m, _, _, g.trans (g15.less upd_dom), ⟨a5.1.trans (a4.1.trans (a3.1.trans ax.1)), fun n l => by
          obtain ⟨e1, l1⟩ := ax.2 n l
          obtain ⟨e2, l2⟩ := aa n l1
          exact ⟨e2.trans e1, l2⟩⟩, RB.reframe n5, n5, (da.mono g15.1).put uz, s.mono g15.1 iv, Nat.le_trans put_len (Nat.succ_le_succ la), h5⟩
  · have ei : i = ds.length := by omega
    subst ei
    have hd : ds.drop ds.length = [] := List.drop_length
    rw [hd] at fr
    cases fr with
    | nil =>
      have RB := Rl.back R R' g.1 ax.2
      have hp1 : H1 p = some (.dT kvs) := RB.fF p _ upd_same
      refine .inl ⟨s.stop R' iv, p, _, rfl, hp1, True.intro, fun od => ?_⟩
      obtain ⟨G4, g4, R4, d4⟩ := (RB.unframe fp gn).lkd (o := od) hid_same da
      rw [upd_hid] at R4
      exact k _ G4 α' _ (g.trans g4) ax R4 d4
theorem de_dcL {pos : Pos} (hc : X.calm = true) (hu : X.A.units + 1 < cLine) (hN : X.N.Nodup) (hi : DI X tg iter S ds S1) (ok : BlkOk X.N X.env.scope scope own) (hT : T.ins (own.map (·.2)) = true)
    (hg : ∀ (s : Shared) (H : Hp) (C : Addr) (cl : List (Str × Addr)) (fp : List Addr), TgOk (X.blk s H scope (compEnvC scope cl C X.env) fp) tg T)
    (f : DcR X scope T ifs kx vx (wipeG S1.g (own.map (·.2))) ds S1.m [] ps m') (hz : ds.length ≤ 1000000) (hs : ∀ x, foldedSetIterable iter X.env x = pure x := by intro _; rfl) :
    DE X (.DictComp kx vx [⟨tg, iter, ifs, 0⟩] scope pos) S (.dat (.lkd (kOf ps) (vOf ps))) ⟨S1.g, m'⟩ :=
  PE.wk (pe_lockv (pe_dcT (g := T.rd X.K) (tk := anyB X scope kx) (tv := anyB X scope vx) (tt := anyBT X scope ifs) hc hu hN hi ok hg (fun s H C cl fp => ⟨fun pins s' σ H' Q I ⟨t, h, q⟩ => (h s H C cl fp).run pins s' σ H' Q I q⟩)
    (fun s H C cl fp => ⟨fun pins s' σ H' Q I ⟨t, h, q⟩ => (h s H C cl fp).run pins s' σ H' Q I q⟩) (fun s H C cl fp => ⟨fun pins s' σ H' Q I ⟨t, h, q⟩ => (h s H C cl fp).run pins s' σ H' Q I q⟩) hs))
    fun σ H Q ⟨F, G, α, R, k⟩ => ⟨F, G, α, R, fun J inv G1 α1 H1 g1 a1 R1 s i1 => dc_run R1 s i1 hT f hz fun v G2 α2 H2 g2 a2 R2 uv => k v G2 α2 H2 (g1.trans g2) (a1.trans a2) R2 uv⟩
end
end DL
/-! DL0: set(xs) of a list of ints. -/
namespace DL
open PySem PySem.Spec PyProof.Rows L2
abbrev newSet (w : World) : Obj := { cls := .type "set", dict := none, data := .set #[] 0 (.fresh 0 0 (!w.params.followText "set-order")) }
section
variable {P : Program} {w : World} {A : Around} {E : Value → Shared → Prop} {s : Shared}
set_option maxHeartbeats 3200000 in
/-- set(xs), xs a list of ints -/
theorem set_of_list {l : Addr} {items : Array Value} (ns : List Int) {Q : Value → Shared → Prop} (nohot : A.handled = none) (isl : s.heap.IsList l items) (iv0 : IntsAre items.toList ns) (few : ns.length + 1 < scanBound)
    (k : ∀ (h' : Heap) (tk c : Nat), SetR w h' s.heap.objs.size (fun j => decide (j ∈ ns)) c → c ≤ ns.length → (∀ b o, s.heap.get? b = some o → h'.get? b = some o) → Q (.ref s.heap.objs.size) { s with heap := h', toks := tk }) :
    wpAny (model P w) A (call (.type "set") [.ref l]) Q E s := by
  have sz : items.size = ns.length := by rw [← IntsAre.length iv0, Array.length_toList]
  obtain ⟨cm, tl, hmro⟩ := F.called_set.mro
  have v1 := F.called_set.made
  have v2 := F.called_set.sub
  refine wpAny_call (codeAny_of_tree ?_)
  show wpAny _ _ (callAny (.type "set") _) _ _ _
  refine wpAny_pure ⟨Code.quiet_builtin _ (by decide +kernel), codeAny_builtin F.entry_type_call ?_⟩
  rw [Around.under_plain (weight_type_call_type "set" [.ref l] []) rfl]
  have v3 := F.called_set.notType
  have v4 := F.called_set.canCreate
  have v5 := F.typeCall_set_1 (.ref l)
  repeat (any_goals (first | assumption | wp_step))
  refine codeAny_mono (code_set_led1 (.ref l) (E := E) (Q₁ := fun obj s₁ => obj = .ref s.heap.objs.size ∧ s₁ = { s with heap := s.heap.push (newSet w) }) ⟨rfl, rfl⟩) fun r s₁ hr => ?_
  cases r with
  | error er => exact hr
  | ok fl =>
    cases fl with
    | ret obj =>
      obtain ⟨rfl, rfl⟩ := hr
      have at0 : (s.heap.push (newSet w)).get? s.heap.objs.size = some (newSet w) := Heap.get?_push_size _ rfl
      have ty0 : Shared.TypeIs { s with heap := s.heap.push (newSet w) } (.ref s.heap.objs.size) "set" := ⟨_, at0, rfl⟩
      have v6 := F.called_set.init.lookup
      have v7 := F.called_set.init.bind (.ref s.heap.objs.size)
      repeat (any_goals (first | assumption | wp_step))
      refine codeAny_mono (codeAny_call_builtin (R := wants (fun r s₂ => r = .none ∧ ∃ h' tk c, s₂ = { s with heap := h', toks := tk } ∧ SetR w h' s.heap.objs.size (fun j => decide (j ∈ ns)) c ∧ c ≤ ns.length ∧ (∀ b o, s.heap.get? b = some o → h'.get? b = some o)) E)
        F.called_set.init.plain F.entry_set_init (check_set_init_1 ty0 ?_)) fun r₂ s₂ hr₂ => ?_
      · obtain ⟨⟨oc, od, ot, os⟩, e0, e1, n, e2⟩ := isl
        simp only at e1 e2
        subst e1 e2
        have e3 : (s.heap.push (newSet w)).get? l = some { cls := .type "list", dict := od, data := .seq items n, slots := os } := Heap.get?_push_of_some _ e0
        have v8 := F.sub_list_set
        have v9 := F.sub_list_frozenset
        have va : (Value.type "list" == Value.type "dict") = false := by decide
        have isl1 : (s.heap.push (newSet w)).IsList l items := ⟨_, e3, rfl, n, rfl⟩
        unfold Builtin.«set.__init__» noKeywords Builtin.Frozenset.updateFrom
        generalize hPI : pyIter = PI
        wp_walk
        subst hPI
        refine wpAny_pyIter_list isl1 (wpAny_bind (wpAny_runValue ?_))
        have lt0 : l < s.heap.objs.size := Heap.lt_size e0
        have ne1 : l ≠ (s.heap.push (newSet w)).objs.size := by rw [Heap.size_push]; exact Nat.ne_of_lt (Nat.lt_succ_of_lt lt0)
        have out1 : s.heap.objs.size ∉ [(s.heap.push (newSet w)).objs.size, l] := by
          rw [Heap.size_push]
          simp only [List.mem_cons, List.not_mem_nil, or_false, not_or]
          exact ⟨Nat.ne_of_lt (Nat.lt_succ_self _), Nat.ne_of_gt lt0⟩
        have vals : ∀ (i : Nat) (v : Value), items[i]? = some v → ∃ k t, ns[i]? = some k ∧ v = .int k t := fun i v hv => by
          have hi : i < ns.length := by rw [← sz]; exact (Array.getElem?_eq_some_iff.mp hv).1
          obtain ⟨t, e⟩ := PyProof.Rows.IntsAre.int_at iv0 i v (by rw [Array.getElem?_toList]; exact hv)
          exact ⟨ns[i], t, List.getElem?_eq_getElem hi, by rw [e, List.getD_eq_getElem?_getD, List.getElem?_eq_getElem hi] <;> rfl⟩
        refine set_update_ints ((Walks.list (by simp [nohot]) _ l ne1 items).toS) s.heap.objs.size out1 ns sz few vals (items.size - 0) 0 _ (by omega) (Nat.zero_le _) ⟨⟨_, Heap.get?_push_size _ rfl, rfl, rfl⟩, isl1.push _⟩ ⟨0, Nat.le_refl 0, setR_new_at (Heap.get?_push_of_some _ at0)⟩ ?_
        intro s' c' mv hc' hS'
        obtain ⟨h', g2, d', tk', os'⟩ := s'
        obtain rfl : g2 = s.gens := mv.gens
        obtain rfl : d' = s.drawn := mv.drawn
        obtain rfl : os' = s.os := mv.os
        show wpAny _ _ _ _ _ _
        refine wpAny_pure ?_
        show wpAny _ _ (ret Value.none) _ _ _
        refine wpAny_pure ⟨rfl, h', tk', c', rfl, hS', by rw [← sz]; exact hc', fun b o e => ?_⟩
        have b1 : b < s.heap.objs.size := Heap.lt_size e
        refine mv.heap b o ?_ (Heap.get?_push_of_some _ (Heap.get?_push_of_some _ e))
        rw [Heap.size_push]
        simp only [List.mem_cons, List.not_mem_nil, or_false, not_or]
        exact ⟨Nat.ne_of_lt b1, Nat.ne_of_lt (Nat.lt_succ_of_lt b1)⟩
      · cases r₂ with
        | error er => exact hr₂
        | ok fl2 =>
          cases fl2 with
          | ret rv =>
            obtain ⟨rfl, h', tk, c', rfl, hS', hc', hk'⟩ := hr₂
            repeat (any_goals (first | assumption | wp_step))
            exact k _ _ _ hS' hc' hk'
          | _ => exact hr₂.elim
    | _ => exact hr.elim
end
end DL
/-! DM: sets and what is sorted. -/
namespace DL
open PySem PySem.Spec PyProof.Rows L2
/-! ### ints, sorted, each once -/
def ins1 (x : Int) : List Int → List Int
  | [] => [x]
  | y :: l => if x < y then x :: y :: l else if x = y then y :: l else y :: ins1 x l
def sset (ns : List Int) : List Int := ns.foldr ins1 []
theorem mem_ins1 {x k : Int} : ∀ {l : List Int}, k ∈ ins1 x l ↔ k = x ∨ k ∈ l
  | [] => by simp [ins1]
  | y :: l => by
    unfold ins1
    split
    · simp
    · split
      · rename_i h
        subst h
        simp
      · rw [List.mem_cons, List.mem_cons, mem_ins1 (l := l)]
        constructor
        · rintro (h | h | h)
          · exact .inr (.inl h)
          · exact .inl h
          · exact .inr (.inr h)
        · rintro (h | h | h)
          · exact .inr (.inl h)
          · exact .inl h
          · exact .inr (.inr h)
theorem ins1_sorted {x : Int} : ∀ {l : List Int}, l.Pairwise (· < ·) → (ins1 x l).Pairwise (· < ·)
  | [], _ => List.pairwise_singleton _ _
  | y :: l, h => by
    obtain ⟨h1, h2⟩ := List.pairwise_cons.mp h
    unfold ins1
    split
    · rename_i hxy
      refine List.pairwise_cons.mpr ⟨fun z hz => ?_, h⟩
      rcases List.mem_cons.mp hz with e | e
      · rw [e]; exact hxy
      · exact Int.lt_trans hxy (h1 z e)
    · split
      · exact h
      · rename_i n1 n2
        refine List.pairwise_cons.mpr ⟨fun z hz => ?_, ins1_sorted h2⟩
        rcases mem_ins1.mp hz with e | e
        · rw [e]; omega
        · exact h1 z e
theorem sset_sorted : ∀ ns : List Int, (sset ns).Pairwise (· < ·)
  | [] => .nil
  | n :: ns => ins1_sorted (sset_sorted ns)
theorem mem_sset {k : Int} : ∀ {ns : List Int}, k ∈ sset ns ↔ k ∈ ns
  | [] => by simp [sset]
  | n :: ns => by
    show k ∈ ins1 n (sset ns) ↔ _
    rw [mem_ins1, mem_sset, List.mem_cons]
theorem strict_uniq : ∀ {a b : List Int}, a.Pairwise (· < ·) → b.Pairwise (· < ·) → (∀ k, k ∈ a ↔ k ∈ b) → a = b
  | [], [], _, _, _ => rfl
  | [], y :: b, _, _, h => absurd ((h y).mpr List.mem_cons_self) List.not_mem_nil
  | x :: a, [], _, _, h => absurd ((h x).mp List.mem_cons_self) List.not_mem_nil
  | x :: a, y :: b, ha, hb, h => by
    obtain ⟨a1, a2⟩ := List.pairwise_cons.mp ha
    obtain ⟨b1, b2⟩ := List.pairwise_cons.mp hb
    have exy : x = y := by
      have h1 := (h x).mp List.mem_cons_self
      have h2 := (h y).mpr List.mem_cons_self
      rcases List.mem_cons.mp h1 with e | e
      · exact e
      · rcases List.mem_cons.mp h2 with e2 | e2
        · exact e2.symm
        · have := b1 x e
          have := a1 y e2
          omega
    subst exy
    congr 1
    refine strict_uniq a2 b2 fun k => ⟨fun hk => ?_, fun hk => ?_⟩
    · rcases List.mem_cons.mp ((h k).mp (List.mem_cons_of_mem _ hk)) with e | e
      · have := a1 k hk
        omega
      · exact e
    · rcases List.mem_cons.mp ((h k).mpr (List.mem_cons_of_mem _ hk)) with e | e
      · have := b1 k hk
        omega
      · exact e
theorem sset_self {ns : List Int} (h : ns.Pairwise (· < ·)) : sset ns = ns := strict_uniq (sset_sorted ns) h fun k => mem_sset
theorem sset_eq {ns ms : List Int} (h : ∀ k, k ∈ ns ↔ k ∈ ms) : sset ns = sset ms := strict_uniq (sset_sorted ns) (sset_sorted ms) fun k => by rw [mem_sset, mem_sset, h]
def sort2 (a b : Int) : List Int := if b < a then [b, a] else [a, b]
theorem sort2_uniq {a b : Int} {l : List Int} (hp : l.Perm [a, b]) (hs : l.Pairwise (· ≤ ·)) : l = sort2 a b := by
  have hl := hp.length_eq
  match l, hl with
  | [x, y], _ =>
    obtain ⟨h1, _⟩ := List.pairwise_cons.mp hs
    have hxy := h1 y (by simp)
    have ha : a ∈ [x, y] := hp.mem_iff.mpr (by simp)
    have hb : b ∈ [x, y] := hp.mem_iff.mpr (by simp)
    have hx : x ∈ [a, b] := hp.mem_iff.mp (by simp)
    have hy : y ∈ [a, b] := hp.mem_iff.mp (by simp)
    simp only [List.mem_cons, List.not_mem_nil, or_false] at ha hb hx hy
    unfold sort2
    by_cases h : b < a
    · rw [if_pos h]
      have e1 : x = b := by omega
      have e2 : y = a := by omega
      rw [e1, e2]
    · rw [if_neg h]
      have e1 : x = a := by omega
      have e2 : y = b := by omega
      rw [e1, e2]
section
variable {X : Cx} {a b : Expr} {S S1 S2 : DSt} {u z : U} {ns : List Int} {pos pos2 : Pos}
def rSetI (w : World) : List V → Hp → VK → Prop := fun xs H Q => ∃ (l : Addr) (ns : List Int), xs = [.ref l] ∧ H l = some (.lst (ns.map V.int)) ∧ ns.length < 64 ∧ ∀ (p : Addr) (c : Nat), H p = none → c ≤ ns.length → Q (.ref p) (upd H p (SetO w p (fun j => decide (j ∈ ns)) c))
theorem call_setI (hc : X.calm = true) : CallR X (.type "set") (rSetI X.w) := by
  rintro pins s σ H xs us Q J r ⟨l, ns, rfl, hl, few, q⟩
  rw [Vals.ref1 r]
  obtain ⟨zl, its, n, rl, hl2, el⟩ := J.lstM hl
  refine set_of_list ns (J.ok.hd hc) ⟨_, el, rfl, n, rfl⟩ rl.ints (by unfold scanBound; omega) fun h' tk c hS hcl kp => ?_
  have hn := J.hok.fresh (Nat.le_refl s.heap.objs.size)
  exact ⟨.ref s.heap.objs.size, _, J.laid (a := s.heap.objs.size) (o := SetO X.w s.heap.objs.size (fun j => decide (j ∈ ns)) c) (t' := tk) kp (Nat.le_refl _) (setO_new hS), rfl, q _ c hn hcl⟩
theorem Rl.extra {K : PySem.W.Frag} {F G : Hp} {α : Nat → Addr} {σ : L2.St} {H : Hp} (R : Rl K F G α S σ H) {p : Addr} {o : HO} (h : H p = none) : Rl K F G α S σ (upd H p o) :=
  ⟨same_into R.fF h, same_into R.fG h, R.ln, R.sl, fun n mo hm => by
    obtain ⟨h1, h2, o', h3, h4⟩ := R.mu n mo hm
    exact ⟨h1, h2, o', by rw [upd_ne (R.apart h n ⟨mo, hm⟩)]; exact h3, h4⟩, R.inj⟩
/-- sorted(set(xs)) -/
theorem de_sset {p p2 : Pos} (hc : X.calm = true) (hm : X.mg "sorted" = none) (hm2 : X.mg "set" = none) (ha : DE X a S u S1) (l : LU S1.m u (ns.map .int)) (few : ns.length < 64) (hz : Made S1 (.lst ((sset ns).map .int)) z S2) (hg : Gl X "sorted" := by rfl) (hg2 : Gl X "set" := by rfl)
    (he : starEach [a] X.env = (false, eval a X.env) :: starEach [] X.env := by rfl) (he2 : starEach [.Call (.Name "set" p2) [a] [] pos2] X.env = (false, eval (.Call (.Name "set" p2) [a] [] pos2) X.env) :: starEach [] X.env := by rfl) :
    DE X (.Call (.Name "sorted" p) [.Call (.Name "set" p2) [a] [] pos2] [] pos) S z S2 :=
  PE.wk (pe_callB (cr_sortedSet hc) hg hm PyProof.Rows.boot_sorted (pa_cons (pe_callTy (call_setI hc) hg2 hm2 PyProof.Rows.boot_set (da_cons ha da_nil he) (by decide) (by decide) he rfl) pa_nil he2) (by decide) (by decide) he2 rfl)
    fun σ H Q ⟨F, G, α, R, k⟩ => ⟨F, G, α, R, fun vs G1 α1 H1 g1 a1 R1 hv => by
      obtain ⟨v, r, rfl, h1, h2⟩ := hv
      have e : r = [] := h2
      subst e
      obtain ⟨c, ws, rfl, h3, h4⟩ := l.real R1 h1
      rw [dats_ints h4] at h3
      refine ⟨c, ns, rfl, h3, few, fun p n hp hn => ⟨p, _, n, rfl, upd_same, by omega, fun ms q s1 s2 s3 hq => ?_⟩⟩
      have em : ms = sset ns := strict_uniq s1 (sset_sorted ns) fun k => by rw [s2, mem_sset, decide_eq_true_iff]
      subst em
      obtain ⟨G4, α4, g4, a4, R4, u4⟩ := (R1.extra hp).made hq (mo := .lst ((sset ns).map .int)) ⟨_, rfl, ints_dats _⟩ hz
      exact k _ G4 α4 _ (g1.trans g4) (a1.trans a4) R4 u4⟩
/-- sorted(xs) of a list of ints -/
theorem de_sorted {p : Pos} {r : List Int} (hm : X.mg "sorted" = none) (ha : DE X a S u S1) (l : LU S1.m u (ns.map .int)) (hr : ∀ ms : List Int, ms.Perm ns → ms.Pairwise (· ≤ ·) → ms = r) (hz : Made S1 (.lst (r.map .int)) z S2) (hg : Gl X "sorted" := by rfl)
    (he : starEach [a] X.env = (false, eval a X.env) :: starEach [] X.env := by rfl) : DE X (.Call (.Name "sorted" p) [a] [] pos) S z S2 :=
  de_callB cr_sortedI hm PyProof.Rows.boot_sorted (da_cons ha da_nil he) (fun F G α σ H vs Q R hv k => by
    obtain ⟨v, r', rfl, h1, h2⟩ := hv
    have e : r' = [] := h2
    subst e
    obtain ⟨c, ws, rfl, h3, h4⟩ := l.real R h1
    rw [dats_ints h4] at h3
    refine ⟨c, ns, rfl, .of h3, fun ms q s1 s2 hq => ?_⟩
    rw [hr ms s1 s2]
    obtain ⟨G4, α4, g4, a4, R4, u4⟩ := R.made hq (mo := .lst (r.map .int)) ⟨_, rfl, ints_dats _⟩ hz
    exact k _ G4 α4 _ g4 a4 R4 u4) hg (by decide) (by decide) he
/-! ### len(set(xs)), xs a list of tuples of ints -/
def rLenST (P : Program) (w : World) (K : PySem.W.Frag) : List V → Hp → VK → Prop := fun vs H Q => ∃ (a : Addr) (L : List (Addr × List Int)), vs = [V.ref a] ∧ H a = some (SetTO P w a L) ∧ (∀ p ∈ L, SqT K H p.1 (p.2.map V.int)) ∧ ((L.map (·.2)).Nodup → Q (.int L.length) H)
theorem call_lenST : CallR X (.builtin "len") (rLenST X.prog X.w X.K) := by
  rintro pins s σ H vs us Q J r ⟨a, L, rfl, ha, hk, q⟩
  have R0 : SetT0 X.prog X.w s.heap a L := (J.hok a _ ha).1
  obtain ⟨es, ep, t, R⟩ := R0.full fun p hp => Inv.isT J (hk p hp)
  rw [Vals.ref1 r]
  obtain ⟨o, ho, hex, hd⟩ := R.ob
  have few := R.few
  have sz := R.size
  exact call_len_set ho hex hd R.fits (by rw [sz]; omega) ⟨.int L.length, H, J.tok _, ⟨_, by rw [sz]⟩, q R.nd⟩
theorem nodup_len {κ : Type} [DecidableEq κ] : ∀ {a b : List κ}, a.Nodup → (∀ x ∈ a, x ∈ b) → a.length ≤ b.length
  | [], b, _, _ => Nat.zero_le _
  | x :: a, b, hn, hs => by
    have hx := hs x List.mem_cons_self
    obtain ⟨h1, h2⟩ := List.nodup_cons.mp hn
    have h3 : ∀ y ∈ a, y ∈ b.erase x := fun y hy => (List.mem_erase_of_ne fun e => h1 (by rw [← e]; exact hy)).mpr (hs y (List.mem_cons_of_mem _ hy))
    have := nodup_len h2 h3
    rw [List.length_erase_of_mem hx] at this
    have : 0 < b.length := List.length_pos_of_mem hx
    rw [List.length_cons]
    omega
theorem dist_of {xs ys : List (List Int)} (hn : ys.Nodup) (h : ∀ k, k ∈ ys ↔ k ∈ xs) : (ys.length = xs.length ↔ xs.Nodup) := by
  constructor
  · intro e
    exact (perm_of_sub hn (fun k hk => (h k).mp hk) (by omega)).nodup_iff.mp hn
  · intro hx
    exact Nat.le_antisymm (nodup_len hn fun k hk => (h k).mp hk) (nodup_len hx fun k hk => (h k).mpr hk)
/-- len(set(xs)): as many as xs exactly if none comes twice -/
theorem de_lenST {p p2 : Pos} {xs : List (List Int)} (hc : X.calm = true) (hu : X.A.units + 64 < cLine) (hm : X.mg "len" = none) (hm2 : X.mg "set" = none) (ha : DE X a S u S1) (l : LU S1.m u (xs.map fun n => .tup (n.map .int))) (few : xs.length < 64) (hg : Gl X "len" := by rfl) (hg2 : Gl X "set" := by rfl)
    (he : starEach [a] X.env = (false, eval a X.env) :: starEach [] X.env := by rfl) (he2 : starEach [.Call (.Name "set" p2) [a] [] pos2] X.env = (false, eval (.Call (.Name "set" p2) [a] [] pos2) X.env) :: starEach [] X.env := by rfl) {n : Nat} (hn : ∀ ys : List (List Int), ys.Nodup → (∀ k, k ∈ ys ↔ k ∈ xs) → ys.length = n) :
    DE X (.Call (.Name "len" p) [.Call (.Name "set" p2) [a] [] pos2] [] pos) S (.dat (.int n)) S1 :=
  PE.wk (pe_callB call_lenST hg hm boot_len (pa_cons (pe_callTy (cr_setOfT hc hu) hg2 hm2 PyProof.Rows.boot_set (da_cons ha da_nil he) (by decide) (by decide) he rfl) pa_nil he2) (by decide) (by decide) he2 rfl)
    fun σ H Q ⟨F, G, α, R, k⟩ => ⟨F, G, α, R, fun vs G1 α1 H1 g1 a1 R1 hv => by
      obtain ⟨v, r, rfl, h1, h2⟩ := hv
      have e : r = [] := h2
      subst e
      obtain ⟨c, ws, rfl, h3, h4⟩ := l.real R1 h1
      have tups : ∀ {xs : List (List Int)} {ws : List V}, Dats X.K H1 (xs.map fun n => .tup (n.map .int)) ws → ∃ ks : List (Addr × List Int), ws = ks.map (fun p => V.ref p.1) ∧ ks.map (·.2) = xs ∧ ∀ p ∈ ks, H1 p.1 = some (.tup (p.2.map V.int)) := by
        intro xs
        induction xs with
        | nil =>
          intro ws h
          exact ⟨[], of_dats0 h, rfl, fun p hp => nomatch hp⟩
        | cons x xs ih =>
          intro ws h
          obtain ⟨v, r, rfl, d1, d2⟩ := of_dats h
          obtain ⟨ks, e1, e2, e3⟩ := ih d2
          obtain ⟨t, ys, rfl, d3, d4⟩ := of_tup d1
          rw [dats_ints d4] at d3
          refine ⟨(t, x) :: ks, by rw [e1]; rfl, by rw [List.map_cons, e2], fun p hp => ?_⟩
          rcases List.mem_cons.mp hp with z | z
          · rw [z]; exact d3
          · exact e3 p z
      obtain ⟨ks, e1, e2, e3⟩ := tups (h4.mono R1.fG)
      rw [e1] at h3
      refine ⟨c, ks, rfl, .of h3, fun p hp => .of (e3 p hp), by rw [← List.length_map (f := fun p : Addr × List Int => p.2), e2]; exact few, fun p L hp sub all => ⟨p, L, rfl, upd_same, fun q hq => .of ?_, fun nd => ?_⟩⟩
      · have := e3 q (sub q hq)
        rw [upd_ne (ne_of_none this hp)]
        exact this
      · have hl := hn (L.map (·.2)) nd fun k => ⟨fun hk => ?_, fun hk => ?_⟩
        · rw [List.length_map] at hl
          rw [hl]
          exact k _ G1 α1 _ g1 a1 (R1.extra hp) (.int _)
        · obtain ⟨q, hq, e⟩ := List.mem_map.mp hk
          rw [← e2, ← e]
          exact List.mem_map.mpr ⟨q, sub q hq, rfl⟩
        · rw [← e2] at hk
          obtain ⟨q, hq, e⟩ := List.mem_map.mp hk
          rw [← e]
          exact all q hq⟩
end
end DL
/-! DZ: list(zip(a, b)). -/
namespace DL
open PySem PySem.Spec PyProof.Rows L2
/-- an iterator at it over the items xs of the thing at l -/
structure Drw (P : Program) (w : World) (it l : Addr) (xs : Array Value) (St : Nat → Heap → Prop) : Prop where
  keep : ∀ {k : Nat} {h h' : Heap}, St k h → (∀ c o, c = it ∨ c = l → h.get? c = some o → h'.get? c = some o) → St k h'
  lt : ∀ {k : Nat} {h : Heap}, St k h → it < h.objs.size ∧ l < h.objs.size
  item : ∀ {A : Around} {E : Value → Shared → Prop} {s : Shared} {k : Nat} {x : Value} {Q : Value → Shared → Prop}, St k s.heap → xs[k]? = some x → (∀ h', St (k + 1) h' → Heap.SameBut it s.heap h' → Q x { s with heap := h' }) → wpAny (model P w) A (Builtin.SmallTypes.nextOf (.ref it)) Q E s
  done : ∀ {A : Around} {E : Value → Shared → Prop} {s : Shared} {k : Nat} {Q : Value → Shared → Prop}, A.handled = none → St k s.heap → xs[k]? = none → (∀ h' e, Heap.ExtBut it s.heap h' → (∃ o, h'.get? e = some o ∧ o.cls = .type "StopIteration") → E (.ref e) { s with heap := h' }) →
    wpAny (model P w) A (Builtin.SmallTypes.nextOf (.ref it)) Q E s
theorem drw_list {P : Program} {w : World} {it l : Addr} {xs : Array Value} (ne : l ≠ it) : Drw P w it l xs (fun k h => h.IsListIter it l k ∧ h.IsList l xs) where
  keep := fun st k => ⟨st.1.at fun o e => k it o (.inl rfl) e, st.2.at fun o e => k l o (.inr rfl) e⟩
  lt := fun ⟨⟨o, e, _⟩, ⟨o2, e2, _⟩⟩ => ⟨Heap.lt_size e, Heap.lt_size e2⟩
  item := fun st hx k => wpAny_nextOf_list_item st.1 st.2 hx fun h' a b => k h' ⟨a, st.2.extBut b.extBut ne⟩ b
  done := fun hh st hx k => wpAny_nextOf_list_end hh st.1 st.2 hx k
theorem drw_tup {P : Program} {w : World} {it l : Addr} {xs : Array Value} (ne : l ≠ it) : Drw P w it l xs (fun k h => h.IsTupleIter it l k ∧ h.IsTuple l xs) where
  keep := fun st k => ⟨st.1.at fun o e => k it o (.inl rfl) e, st.2.at fun o e => k l o (.inr rfl) e⟩
  lt := fun ⟨⟨o, e, _⟩, ⟨o2, e2, _⟩⟩ => ⟨Heap.lt_size e, Heap.lt_size e2⟩
  item := fun st hx k => RZ.nextOf_tuple_item st.1 st.2 hx fun h' a b => k h' ⟨a, st.2.extBut b.extBut ne⟩ b
  done := fun hh st hx k => RZ.nextOf_tuple_end hh st.1 st.2 hx k
section
variable {P : Program} {w : World} {A : Around} {E : Value → Shared → Prop} {s : Shared} {z TI TO i1 i2 l1 l2 : Addr} {xs ys : Array Value} {St1 St2 : Nat → Heap → Prop}
theorem held_item {T : Addr} {f : Bool} {oT : Obj} {k : Nat} {x y : Value} {Q : Option Value → Shared → Prop} (D : ZipApart z TI TO i1 i2 l1 l2) (d1 : Drw P w i1 l1 xs St1) (d2 : Drw P w i2 l2 ys St2) (hz : IsZipHeld s.heap z TI TO T f) (hT : s.heap.get? T = some oT) (hTI : IsPair s.heap TI (.ref i1) (.ref i2))
    (h1 : St1 k s.heap) (h2 : St2 k s.heap) (hx : xs[k]? = some x) (hy : ys[k]? = some y)
    (q : ∀ h', IsZipHeld h' z TI TO T true → St1 (k + 1) h' → St2 (k + 1) h' → IsPair h' s.heap.objs.size x y → h'.objs.size = s.heap.objs.size + 1 → (∀ c o, c ≠ z → c ≠ i1 → c ≠ i2 → s.heap.get? c = some o → h'.get? c = some o) → Q (some (.ref s.heap.objs.size)) { s with heap := h' }) :
    wpAny (model P w) A (pyNext (.ref z)) Q E s := by
  have ty : s.TypeIs (.ref z) "zip" := ⟨_, hz, rfl⟩
  unfold pyNext
  refine wpAny_bind (wpAny_attempt (wpAny_callSpecial?_slot (name := Str.ofString "__next__") ty F.slot_zip_next (wpAny_call_entry F.slot_zip_next ty F.entry_zip_next ?_ (F.args_zip_next_1 _))))
  show wpAny _ _ (field (.ref z) 2 >>= _) _ _ _
  refine wpAny_bind (wpAny_field hz rfl (x := .bool false) rfl ?_)
  show wpAny _ _ (field (.ref z) 3 >>= _) _ _ _
  refine wpAny_bind (wpAny_field hz rfl (x := .ref TI) rfl (wpAny_bind (wpAny_seqItems hTI rfl ?_)))
  show wpAny _ _ (Builtin.SmallTypes.ownedTupleIsFree (.ref z) >>= _) _ _ _
  refine wpAny_bind (wpAny_tupleHeld_zip hz hT fun g1 hz1 b1 => ?_)
  simp only [Bool.false_eq_true, if_false]
  refine wpAny_bind ?_
  rw [← Array.forIn_toList]
  simp only [List.forIn_cons, List.forIn_nil]
  refine wpAny_bind (wpAny_bind (wpAny_holding ?_))
  show wpAny _ _ (Builtin.SmallTypes.nextOf (.ref i1) >>= _) _ _ _
  have s1 : St1 k g1 := d1.keep h1 fun c o hc e => (b1.2 c (by rcases hc with rfl | rfl; exact D.i1z; exact D.l1z)).trans e
  refine wpAny_bind (d1.item (s := { s with heap := g1 }) s1 hx fun g2 s2 b2 => wpAny_pure (wpAny_pure ?_))
  refine wpAny_bind (wpAny_bind (wpAny_holding ?_))
  show wpAny _ _ (Builtin.SmallTypes.nextOf (.ref i2) >>= _) _ _ _
  have t2 : St2 k g2 := d2.keep h2 fun c o hc e => by
    rcases hc with rfl | rfl
    · exact (b2.2 _ (Ne.symm D.i12)).trans ((b1.2 _ D.i2z).trans e)
    · exact (b2.2 _ D.l2i1).trans ((b1.2 _ D.l2z).trans e)
  refine wpAny_bind (d2.item (s := { s with heap := g2 }) t2 hy fun g3 t3 b3 => wpAny_pure (wpAny_pure (wpAny_pure ?_)))
  show wpAny _ _ (newTuple [x, y] >>= _) _ _ _
  refine wpAny_bind (wpAny_newTuple ?_)
  have sz : g3.objs.size = s.heap.objs.size := by rw [b3.1, b2.1, b1.1]
  have hz3 : IsZipHeld g3 z TI TO T true := (b3.2 _ (Ne.symm D.i2z)).trans ((b2.2 _ (Ne.symm D.i1z)).trans hz1)
  have s3 : St1 (k + 1) g3 := d1.keep s2 fun c o hc e => (b3.2 c (by rcases hc with rfl | rfl; exact D.i12; exact D.l1i2)).trans e
  have kp : ∀ c o, c ≠ z → c ≠ i1 → c ≠ i2 → s.heap.get? c = some o → g3.get? c = some o := fun c o c1 c2 c3 e => (b3.2 c c3).trans ((b2.2 c c2).trans ((b1.2 c c1).trans e))
  refine wpAny_pure ⟨_, rfl, wpAny_pure ?_⟩
  show Q (some (.ref g3.objs.size)) _
  have pr : IsPair (g3.push { cls := .type "tuple", data := .seq #[x, y] }) g3.objs.size x y := Heap.get?_push_size _ rfl
  have sz4 : (g3.push { cls := .type "tuple", data := .seq #[x, y] }).objs.size = g3.objs.size + 1 := Heap.size_push ..
  rw [sz] at pr sz4 ⊢
  exact q _ (Heap.get?_push_of_some _ hz3) (d1.keep s3 fun c o _ e => Heap.get?_push_of_some _ e) (d2.keep t3 fun c o _ e => Heap.get?_push_of_some _ e) pr sz4 fun c o c1 c2 c3 e => Heap.get?_push_of_some _ (kp c o c1 c2 c3 e)
theorem held_end {T : Addr} {f : Bool} {oT : Obj} {k : Nat} {x : Value} {Q : Option Value → Shared → Prop} (hh : A.handled = none) (D : ZipApart z TI TO i1 i2 l1 l2) (d1 : Drw P w i1 l1 xs St1) (d2 : Drw P w i2 l2 ys St2) (hz : IsZipHeld s.heap z TI TO T f) (hT : s.heap.get? T = some oT) (hTI : IsPair s.heap TI (.ref i1) (.ref i2))
    (h1 : St1 k s.heap) (h2 : St2 k s.heap) (hx : xs[k]? = some x) (hy : ys[k]? = none) (q : ∀ h', (∀ c o, c ≠ z → c ≠ i1 → c ≠ i2 → s.heap.get? c = some o → h'.get? c = some o) → Q none { s with heap := h' }) : wpAny (model P w) A (pyNext (.ref z)) Q E s := by
  have ty : s.TypeIs (.ref z) "zip" := ⟨_, hz, rfl⟩
  unfold pyNext
  refine wpAny_bind (wpAny_attempt (wpAny_callSpecial?_slot (name := Str.ofString "__next__") ty F.slot_zip_next (wpAny_call_entry F.slot_zip_next ty F.entry_zip_next ?_ (F.args_zip_next_1 _))))
  show wpAny _ _ (field (.ref z) 2 >>= _) _ _ _
  refine wpAny_bind (wpAny_field hz rfl (x := .bool false) rfl ?_)
  show wpAny _ _ (field (.ref z) 3 >>= _) _ _ _
  refine wpAny_bind (wpAny_field hz rfl (x := .ref TI) rfl (wpAny_bind (wpAny_seqItems hTI rfl ?_)))
  show wpAny _ _ (Builtin.SmallTypes.ownedTupleIsFree (.ref z) >>= _) _ _ _
  refine wpAny_bind (wpAny_tupleHeld_zip hz hT fun g1 hz1 b1 => ?_)
  simp only [Bool.false_eq_true, if_false]
  refine wpAny_bind ?_
  rw [← Array.forIn_toList]
  simp only [List.forIn_cons, List.forIn_nil]
  refine wpAny_bind (wpAny_bind (wpAny_holding ?_))
  show wpAny _ _ (Builtin.SmallTypes.nextOf (.ref i1) >>= _) _ _ _
  have s1 : St1 k g1 := d1.keep h1 fun c o hc e => (b1.2 c (by rcases hc with rfl | rfl; exact D.i1z; exact D.l1z)).trans e
  refine wpAny_bind (d1.item (s := { s with heap := g1 }) s1 hx fun g2 s2 b2 => wpAny_pure (wpAny_pure ?_))
  refine wpAny_bind (wpAny_bind (wpAny_holding ?_))
  show wpAny _ _ (Builtin.SmallTypes.nextOf (.ref i2) >>= _) _ _ _
  have t2 : St2 k g2 := d2.keep h2 fun c o hc e => by
    rcases hc with rfl | rfl
    · exact (b2.2 _ (Ne.symm D.i12)).trans ((b1.2 _ D.i2z).trans e)
    · exact (b2.2 _ D.l2i1).trans ((b1.2 _ D.l2z).trans e)
  refine wpAny_bind (d2.done (s := { s with heap := g2 }) hh t2 hy fun g3 e b3 ⟨o, ho, hc⟩ => ?_)
  exact wpAny_bind (wpAny_isInstance (T := "StopIteration") (b := true) ⟨o, ho, hc⟩ isSubtype_stop (wpAny_pure (q _ fun c o c1 c2 c3 e => b3 c o c3 ((b2.2 c c2).trans ((b1.2 c c1).trans e)))))
/-- the zip as it stands ahead of the k-th draw -/
def ZS (S z TI TO i1 i2 : Addr) (St1 St2 : Nat → Heap → Prop) (k : Nat) (h : Heap) : Prop :=
  IsPair h TI (.ref i1) (.ref i2) ∧ St1 k h ∧ St2 k h ∧ ((IsZip h z TI TO .none ∧ ∃ a b, IsPair h TO a b) ∨ ∃ T f oT, IsZipHeld h z TI TO T f ∧ h.get? T = some oT ∧ T ≠ z ∧ T ≠ i1 ∧ T ≠ i2 ∧ T ≠ TO ∧ T ≠ TI ∧ T ≠ S)
/-- the first draw, from the library -/
structure Zp (P : Program) (w : World) (z TI TO i1 i2 : Addr) (xs ys : Array Value) (St1 St2 : Nat → Heap → Prop) : Prop where
  item : ∀ {A : Around} {E : Value → Shared → Prop} {s : Shared} {k : Nat} {x y a b : Value} {Q : Option Value → Shared → Prop}, IsZip s.heap z TI TO .none → IsPair s.heap TI (.ref i1) (.ref i2) → IsPair s.heap TO a b → St1 k s.heap → St2 k s.heap → xs[k]? = some x → ys[k]? = some y →
    (∀ h', IsZip h' z TI TO (rawInt s.heap.objs.size) → St1 (k + 1) h' → St2 (k + 1) h' → IsPair h' s.heap.objs.size x y → h'.objs.size = s.heap.objs.size + 1 →
      (∀ c o, c ≠ z → c ≠ TO → c ≠ i1 → c ≠ i2 → s.heap.get? c = some o → h'.get? c = some o) → Q (some (.ref s.heap.objs.size)) { s with heap := h' }) → wpAny (model P w) A (pyNext (.ref z)) Q E s
  done : ∀ {A : Around} {E : Value → Shared → Prop} {s : Shared} {k : Nat} {a b : Value} {Q : Option Value → Shared → Prop}, A.handled = none → IsZip s.heap z TI TO .none → IsPair s.heap TI (.ref i1) (.ref i2) → IsPair s.heap TO a b → St1 k s.heap → St2 k s.heap → ys[k]? = none →
    (∀ h', (∀ c o, c ≠ z → c ≠ TO → c ≠ i1 → c ≠ i2 → s.heap.get? c = some o → h'.get? c = some o) → Q none { s with heap := h' }) → wpAny (model P w) A (pyNext (.ref z)) Q E s
theorem zp_list (D : ZipApart z TI TO i1 i2 l1 l2) : Zp P w z TI TO i1 i2 xs ys (fun k h => h.IsListIter i1 l1 k ∧ h.IsList l1 xs) (fun k h => h.IsListIter i2 l2 k ∧ h.IsList l2 ys) where
  item := fun hz hTI hTO h1 h2 hx hy q => wpAny_pyNext_zip_item D hz hTI hTO h1.1 h2.1 h1.2 h2.2 hx hy fun h' a1 a2 a3 a4 a5 a6 a7 => q h' a1 ⟨a3, h1.2.at fun o e => a7 _ o D.l1z D.l1TO D.l1i1 D.l1i2 e⟩ ⟨a4, h2.2.at fun o e => a7 _ o D.l2z D.l2TO D.l2i1 D.l2i2 e⟩ a5 a6 a7
  done := fun hh hz hTI hTO h1 h2 hy q => wpAny_pyNext_zip_end hh D hz hTI hTO h1.1 h2.1 h1.2 h2.2 (.inr hy) q
theorem zp_tup (D : ZipApart z TI TO i1 i2 l1 l2) : Zp P w z TI TO i1 i2 xs ys (fun k h => h.IsTupleIter i1 l1 k ∧ h.IsTuple l1 xs) (fun k h => h.IsTupleIter i2 l2 k ∧ h.IsTuple l2 ys) where
  item := fun hz hTI hTO h1 h2 hx hy q => RZ.pyNext_zipT_item D hz hTI hTO h1.1 h2.1 h1.2 h2.2 hx hy fun h' a1 a2 a3 a4 a5 a6 a7 => q h' a1 ⟨a3, h1.2.at fun o e => a7 _ o D.l1z D.l1TO D.l1i1 D.l1i2 e⟩ ⟨a4, h2.2.at fun o e => a7 _ o D.l2z D.l2TO D.l2i1 D.l2i2 e⟩ a5 a6 a7
  done := fun hh hz hTI hTO h1 h2 hy q => RZ.pyNext_zipT_end hh D hz hTI hTO h1.1 h2.1 h1.2 h2.2 (.inr hy) q
theorem zs_item {k : Nat} {S : Addr} {x y : Value} {Q : Option Value → Shared → Prop} (hS : S < s.heap.objs.size) (D : ZipApart z TI TO i1 i2 l1 l2) (d1 : Drw P w i1 l1 xs St1) (d2 : Drw P w i2 l2 ys St2) (Z : Zp P w z TI TO i1 i2 xs ys St1 St2) (st : ZS S z TI TO i1 i2 St1 St2 k s.heap) (hx : xs[k]? = some x) (hy : ys[k]? = some y)
    (q : ∀ h', ZS S z TI TO i1 i2 St1 St2 (k + 1) h' → IsPair h' s.heap.objs.size x y → h'.objs.size = s.heap.objs.size + 1 → (∀ c o, c ≠ z → c ≠ TO → c ≠ i1 → c ≠ i2 → s.heap.get? c = some o → h'.get? c = some o) → Q (some (.ref s.heap.objs.size)) { s with heap := h' }) :
    wpAny (model P w) A (pyNext (.ref z)) Q E s := by
  obtain ⟨hTI, h1, h2, c⟩ := st
  rcases c with ⟨hz, a, b, hTO⟩ | ⟨T, f, oT, hz, hT, n1, n2, n3, n4, n5, n6⟩
  · refine Z.item hz hTI hTO h1 h2 hx hy fun h' a1 a2 a3 a4 a5 a6 => q h' ⟨a6 _ _ D.TIz D.TITO D.TIi1 D.TIi2 hTI, a2, a3, .inr ⟨s.heap.objs.size, false, _, a1, a4, Nat.ne_of_gt (Heap.lt_size hz), Nat.ne_of_gt (d1.lt h1).1, Nat.ne_of_gt (d2.lt h2).1, Nat.ne_of_gt (Heap.lt_size hTO), Nat.ne_of_gt (Heap.lt_size hTI), Nat.ne_of_gt hS⟩⟩ a4 a5 a6
  · refine held_item D d1 d2 hz hT hTI h1 h2 hx hy fun h' a1 a2 a3 a4 a5 a6 => q h' ⟨a6 _ _ D.TIz D.TIi1 D.TIi2 hTI, a2, a3, .inr ⟨T, true, oT, a1, a6 _ _ n1 n2 n3 hT, n1, n2, n3, n4, n5, n6⟩⟩ a4 a5 fun c o c1 _ c3 c4 e => a6 c o c1 c3 c4 e
theorem zs_done {k : Nat} {S : Addr} {x : Value} {Q : Option Value → Shared → Prop} (hh : A.handled = none) (D : ZipApart z TI TO i1 i2 l1 l2) (d1 : Drw P w i1 l1 xs St1) (d2 : Drw P w i2 l2 ys St2) (Z : Zp P w z TI TO i1 i2 xs ys St1 St2) (st : ZS S z TI TO i1 i2 St1 St2 k s.heap) (hx : xs[k]? = some x) (hy : ys[k]? = none)
    (q : ∀ h', (∀ c o, c ≠ z → c ≠ TO → c ≠ i1 → c ≠ i2 → s.heap.get? c = some o → h'.get? c = some o) → Q none { s with heap := h' }) : wpAny (model P w) A (pyNext (.ref z)) Q E s := by
  obtain ⟨hTI, h1, h2, c⟩ := st
  rcases c with ⟨hz, a, b, hTO⟩ | ⟨T, f, oT, hz, hT, _⟩
  · exact Z.done hh hz hTI hTO h1 h2 hy q
  · exact held_end hh D d1 d2 hz hT hTI h1 h2 hx hy fun h' a6 => q h' fun c o c1 _ c3 c4 e => a6 c o c1 c3 c4 e
theorem zs_keep {k : Nat} {h h' : Heap} (d1 : Drw P w i1 l1 xs St1) (d2 : Drw P w i2 l2 ys St2) {S : Addr} (st : ZS S z TI TO i1 i2 St1 St2 k h) (kp : ∀ c o, c ≠ S → h.get? c = some o → h'.get? c = some o) (ns : S ≠ z ∧ S ≠ TI ∧ S ≠ TO ∧ S ≠ i1 ∧ S ≠ i2 ∧ S ≠ l1 ∧ S ≠ l2) : ZS S z TI TO i1 i2 St1 St2 k h' := by
  obtain ⟨hTI, h1, h2, c⟩ := st
  obtain ⟨n1, n2, n3, n4, n5, n6, n7⟩ := ns
  refine ⟨kp _ _ (Ne.symm n2) hTI, d1.keep h1 fun c o hc e => kp c o (by rcases hc with rfl | rfl; exact Ne.symm n4; exact Ne.symm n6) e, d2.keep h2 fun c o hc e => kp c o (by rcases hc with rfl | rfl; exact Ne.symm n5; exact Ne.symm n7) e, ?_⟩
  rcases c with ⟨hz, a, b, hTO⟩ | ⟨T, f, oT, hz, hT, r⟩
  · exact .inl ⟨kp _ _ (Ne.symm n1) hz, a, b, kp _ _ (Ne.symm n3) hTO⟩
  · exact .inr ⟨T, f, oT, kp _ _ (Ne.symm n1) hz, kp _ _ r.2.2.2.2.2 hT, r⟩
/-- the pairs that were made, by their places -/
def Prs (h : Heap) (ts : List Addr) (xs ys : Array Value) : Prop := ∀ (j : Nat) (t : Addr), ts[j]? = some t → ∃ x y, xs[j]? = some x ∧ ys[j]? = some y ∧ IsPair h t x y
theorem zip_no_len : typeLookup (.type "zip") "__len__" = pure none := by rw [typeLookup_type, builtinLookup_eq_fast]; kernel_rfl
theorem zip_no_hint : typeLookup (.type "zip") "__length_hint__" = pure none := by rw [typeLookup_type, builtinLookup_eq_fast]; kernel_rfl
theorem zip_loop {S : Addr} {n : Nat} {R : Result → Shared → Prop} {res : Value} (hh : A.handled = none) (D : ZipApart z TI TO i1 i2 l1 l2) (d1 : Drw P w i1 l1 xs St1) (d2 : Drw P w i2 l2 ys St2) (Z : Zp P w z TI TO i1 i2 xs ys St1 St2)
    (hn : ys.size = n) (hx : xs.size = n + 1) (hz : n ≤ 1000000) (lo : z < S ∧ TI < S ∧ TO < S ∧ i1 < S ∧ i2 < S ∧ l1 < S ∧ l2 < S) :
    ∀ (m k : Nat) (s : Shared) (ts : List Addr), n - k = m → k ≤ n → ts.length = k → ZS S z TI TO i1 i2 St1 St2 k s.heap → (∃ c, s.heap.get? S = some { cls := .type "list", dict := none, data := .seq (ts.map Value.ref).toArray c, slots := #[] }) → ts.Nodup →
      (∀ t ∈ ts, S < t ∧ t < s.heap.objs.size) → Prs s.heap ts xs ys →
      (∀ h' ts', (∀ b o, b ≠ S → b ≠ z → b ≠ TO → b ≠ i1 → b ≠ i2 → s.heap.get? b = some o → h'.get? b = some o) → ts'.length = n → (∃ c, h'.get? S = some { cls := .type "list", dict := none, data := .seq (ts'.map Value.ref).toArray c, slots := #[] }) → ts'.Nodup → (∀ t ∈ ts', S < t) → Prs h' ts' xs ys → R (.ok (.ret res)) { s with heap := h' }) →
      codeAny (model P w) A (.builtin "list.extend.loop" ⟨[.ref S, .ref z, res], []⟩) R s
  | 0, k, s, ts, hm, hk, hl, st, ⟨c, hS⟩, nd, ht, pr, q => by
    have ek : k = n := by omega
    subst ek
    obtain ⟨lz, lTI, lTO, li1, li2, ll1, ll2⟩ := lo
    refine codeAny_builtin F.entry_extend_loop ?_
    rw [Around.under_plainId F.plain_extend_loop _]
    show wpAny _ A.in1 (pyNext (.ref z) >>= _) _ _ s
    refine wpAny_bind (zs_done (A := A.in1) hh D d1 d2 Z st (Array.getElem?_eq_getElem (by omega)) (Array.getElem?_eq_none (by omega)) fun h' kp => wpAny_pure ?_)
    refine q h' ts (fun b o _ b1 b2 b3 b4 e => kp b o b1 b2 b3 b4 e) hl ⟨c, kp S _ (Nat.ne_of_gt lz) (Nat.ne_of_gt lTO) (Nat.ne_of_gt li1) (Nat.ne_of_gt li2) hS⟩ nd (fun t h => (ht t h).1) fun j t e => ?_
    obtain ⟨x, y, e1, e2, e3⟩ := pr j t e
    obtain ⟨g1, _⟩ := ht t (List.mem_of_getElem? e)
    exact ⟨x, y, e1, e2, kp _ _ (Nat.ne_of_gt (Nat.lt_trans lz g1)) (Nat.ne_of_gt (Nat.lt_trans lTO g1)) (Nat.ne_of_gt (Nat.lt_trans li1 g1)) (Nat.ne_of_gt (Nat.lt_trans li2 g1)) e3⟩
  | m + 1, k, s, ts, hm, hk, hl, st, ⟨c, hS⟩, nd, ht, pr, q => by
    have hk1 : k < n := by omega
    have lo' := lo
    obtain ⟨lz, lTI, lTO, li1, li2, ll1, ll2⟩ := lo'
    refine codeAny_builtin F.entry_extend_loop ?_
    rw [Around.under_plainId F.plain_extend_loop _]
    show wpAny _ A.in1 (pyNext (.ref z) >>= _) _ _ s
    have lS : S < s.heap.objs.size := Heap.lt_size hS
    refine wpAny_bind (zs_item (A := A.in1) lS D d1 d2 Z st (x := xs[k]'(by omega)) (y := ys[k]'(by omega)) (Array.getElem?_eq_getElem (by omega)) (Array.getElem?_eq_getElem (by omega)) fun h1 st1 p1 z1 k1 => ?_)
    have hS1 := k1 S _ (Nat.ne_of_gt lz) (Nat.ne_of_gt lTO) (Nat.ne_of_gt li1) (Nat.ne_of_gt li2) hS
    show wpAny _ A.in1 (updateSeq S (·.push (.ref s.heap.objs.size)) >>= _) _ _ _
    have sz0 : (ts.map Value.ref).toArray.size = k := by rw [List.size_toArray, List.length_map, hl]
    refine wpAny_bind (wpAny_updateSeq (s := { s with heap := h1 }) hS1 rfl (wpAny_pure ⟨plainId_quiet F.plain_extend_loop _, ?_⟩) (by rw [sizeLine_eq]; omega) (by show ((ts.map Value.ref).toArray.push _).size ≤ sizeLine + 1; rw [Array.size_push, sz0, sizeLine_eq]; omega))
    have g0 := Heap.get?_update_self (Obj.mapSeq (·.push (Value.ref s.heap.objs.size))) hS1 rfl
    have kp2 : ∀ b o, b ≠ S → h1.get? b = some o → (h1.update S (Obj.mapSeq (·.push (Value.ref s.heap.objs.size)))).get? b = some o := fun b o hb e => (Heap.get?_update_other _ _ (Ne.symm hb)).trans e
    have kp3 : ∀ b o, b ≠ S → b ≠ z → b ≠ TO → b ≠ i1 → b ≠ i2 → s.heap.get? b = some o → (h1.update S (Obj.mapSeq (·.push (Value.ref s.heap.objs.size)))).get? b = some o := fun b o b0 b1 b2 b3 b4 e => kp2 b o b0 (k1 b o b1 b2 b3 b4 e)
    refine zip_loop hh D d1 d2 Z hn hx hz lo m (k + 1) _ (ts ++ [s.heap.objs.size]) (by omega) (by omega) (by rw [List.length_append, hl]; rfl)
      (zs_keep d1 d2 st1 kp2 ⟨Nat.ne_of_gt lz, Nat.ne_of_gt lTI, Nat.ne_of_gt lTO, Nat.ne_of_gt li1, Nat.ne_of_gt li2, Nat.ne_of_gt ll1, Nat.ne_of_gt ll2⟩) ⟨_, g0.trans (by rw [List.map_append, List.map_singleton, ← List.push_toArray]; rfl)⟩ ?_ ?_ ?_ ?_
    · rw [List.nodup_append]
      refine ⟨nd, by simp, fun a ha b hb => ?_⟩
      rw [List.mem_singleton] at hb
      subst hb
      exact Nat.ne_of_lt (ht a ha).2
    · intro t h
      have e5 : (h1.update S (Obj.mapSeq (·.push (Value.ref s.heap.objs.size)))).objs.size = s.heap.objs.size + 1 := by rw [(Heap.SameBut.update ..).1, z1]
      show S < t ∧ t < (h1.update S (Obj.mapSeq (·.push (Value.ref s.heap.objs.size)))).objs.size
      rw [e5]
      rcases List.mem_append.mp h with h | h
      · exact ⟨(ht t h).1, Nat.lt_succ_of_lt (ht t h).2⟩
      · rw [List.mem_singleton] at h
        rw [h]
        exact ⟨lS, Nat.lt_succ_self _⟩
    · intro j t e
      by_cases hj : j < ts.length
      · rw [List.getElem?_append_left hj] at e
        obtain ⟨x, y, e1, e2, e3⟩ := pr j t e
        obtain ⟨g1, _⟩ := ht t (List.mem_of_getElem? e)
        exact ⟨x, y, e1, e2, kp3 _ _ (Nat.ne_of_gt g1) (Nat.ne_of_gt (Nat.lt_trans lz g1)) (Nat.ne_of_gt (Nat.lt_trans lTO g1)) (Nat.ne_of_gt (Nat.lt_trans li1 g1)) (Nat.ne_of_gt (Nat.lt_trans li2 g1)) e3⟩
      · have ej : j = ts.length := by
          have := (List.getElem?_eq_some_iff.mp e).1
          rw [List.length_append, List.length_singleton] at this
          omega
        subst ej
        rw [List.getElem?_append_right (Nat.le_refl _), Nat.sub_self] at e
        have e : s.heap.objs.size = t := by simpa using e
        subst e
        rw [hl]
        exact ⟨_, _, Array.getElem?_eq_getElem (by omega), Array.getElem?_eq_getElem (by omega), kp2 _ _ (Nat.ne_of_gt lS) p1⟩
    · intro h' ts' kp' e1 e2 e3 e4 e5
      exact q h' ts' (fun b o b0 b1 b2 b3 b4 e => kp' b o b0 b1 b2 b3 b4 (kp3 b o b0 b1 b2 b3 b4 e)) e1 e2 e3 e4 e5
/-- list(the zip) -/
theorem list_zip {n : Nat} {Q : Value → Shared → Prop} (hh : A.handled = none) (D : ZipApart z TI TO i1 i2 l1 l2) (d1 : Drw P w i1 l1 xs St1) (d2 : Drw P w i2 l2 ys St2) (Z : Zp P w z TI TO i1 i2 xs ys St1 St2) (hn : ys.size = n) (hx : xs.size = n + 1) (hz : n ≤ 1000000)
    (st : ∀ S, S = s.heap.objs.size → ZS S z TI TO i1 i2 St1 St2 0 s.heap) (ty : IsZip s.heap z TI TO .none)
    (q : ∀ h' ts, (∀ b o, b ≠ z → b ≠ TO → b ≠ i1 → b ≠ i2 → s.heap.get? b = some o → h'.get? b = some o) → ts.length = n → (∃ c, h'.get? s.heap.objs.size = some { cls := .type "list", dict := none, data := .seq (ts.map Value.ref).toArray c, slots := #[] }) → ts.Nodup → (∀ t ∈ ts, s.heap.objs.size < t) → Prs h' ts xs ys → Q (.ref s.heap.objs.size) { s with heap := h' }) :
    wpAny (model P w) A (call (.type "list") [.ref z]) Q E s := by
  refine callType_codes (Q₁ := fun obj s₁ => obj = .ref s.heap.objs.size ∧ s₁ = { s with heap := s.heap.push { cls := .type "list", data := .seq #[] } }) F.called_list (F.typeCall_list_1 _) F.entry_list_init (code_list_new _ ⟨rfl, rfl⟩) fun obj s₁ h₁ => ?_
  obtain ⟨rfl, rfl⟩ := h₁
  have at0 : (s.heap.push { cls := .type "list", data := .seq #[] }).get? s.heap.objs.size = some { cls := .type "list", data := .seq #[] } := Heap.get?_push_size _ rfl
  have st0 := st _ rfl
  obtain ⟨hTI, a1, a2, cc⟩ := id st0
  have lz : z < s.heap.objs.size := Heap.lt_size ty
  have lTI : TI < s.heap.objs.size := Heap.lt_size hTI
  have lTO : TO < s.heap.objs.size := by
    rcases cc with ⟨_, a, b, e⟩ | ⟨T, f, oT, e, _⟩
    · exact Heap.lt_size e
    · have := ty.symm.trans e
      cases this
  refine ⟨⟨_, at0, rfl⟩, F.args_list_init_2 _ _, ?_⟩
  show wpAny _ _ (do let old ← Builtin.List.listItems (.ref s.heap.objs.size); Builtin.List.listUpdate (.ref s.heap.objs.size) (fun _ => #[]); letGo old.toList.reverse; Builtin.List.listExtendWith (.ref s.heap.objs.size) (.ref z) .none) _ _ _
  refine wpAny_bind ?_
  unfold Builtin.List.listItems
  refine wpAny_bind (wpAny_seqItems at0 rfl (wpAny_pure (wpAny_bind (wpAny_updateSeq at0 rfl ?_))))
  have at1 := Heap.get?_update_self (Obj.mapSeq (fun _ => (#[] : Array Value))) at0 rfl
  generalize eh1 : (s.heap.push { cls := .type "list", data := .seq #[] }).update s.heap.objs.size (Obj.mapSeq (fun _ => (#[] : Array Value))) = g1 at at1
  have kp1 : ∀ b o, b ≠ s.heap.objs.size → s.heap.get? b = some o → g1.get? b = some o := fun b o hb e => by
    rw [← eh1]
    exact (Heap.get?_update_other _ _ (Ne.symm hb)).trans (Heap.get?_push_of_some _ e)
  have sz1 : g1.objs.size = s.heap.objs.size + 1 := by rw [← eh1, (Heap.SameBut.update ..).1, Heap.size_push]
  refine wpAny_bind (wpAny_letGo ?_)
  have tyz : ∀ g : Heap, g.get? z = s.heap.get? z → Shared.TypeIs { s with heap := g } (.ref z) "zip" := fun g e => ⟨_, e.trans ty, rfl⟩
  have ty1 : IsZip g1 z TI TO .none := kp1 _ _ (Nat.ne_of_lt lz) ty
  unfold Builtin.List.listExtendWith
  have T1 : Shared.TypeIs { s with heap := g1 } (.ref z) "zip" := ⟨_, ty1, rfl⟩
  refine wpAny_bind (wpAny_typeOf T1 ?_)
  have b1 : Builtin.List.listSameRef (.ref s.heap.objs.size) (.ref z) = false := by simp [Builtin.List.listSameRef, Nat.ne_of_gt lz]
  have b2 : (Value.type "zip" == Value.type "list") = false := by decide
  have b3 : (Value.type "zip" == Value.type "tuple") = false := by decide
  simp only [b1, b2, b3, Bool.or_false, Bool.false_eq_true, if_false]
  refine wpAny_bind (wpAny_pyIter_zip (s := { s with heap := g1 }) ty1 (wpAny_bind (wpAny_holding ?_)))
  unfold Builtin.List.listLengthHint
  refine wpAny_bind (wpAny_specialOf T1 zip_no_len ?_)
  show wpAny _ _ (specialOf (Value.ref z) (Str.ofString "__length_hint__") >>= _) _ _ _
  refine wpAny_bind (wpAny_specialOf T1 zip_no_hint (wpAny_pure ?_))
  refine wpAny_bind (wpAny_rule (wpAny_bind ?_))
  show wpAny _ _ (updateSeq s.heap.objs.size (·.push .none) >>= fun _ => updateSeq s.heap.objs.size (·.pop)) _ _ _
  have sz9 : (0 : Nat) ≤ sizeLine := Nat.zero_le _
  refine wpAny_bind (wpAny_updateSeq (s := { s with heap := g1 }) at1 rfl ?_)
  have at2 := Heap.get?_update_self (Obj.mapSeq (·.push Value.none)) at1 rfl
  refine wpAny_updateSeq (hz := by seq_fits) at2 rfl ?_
  have at3 := Heap.get?_update_self (Obj.mapSeq (·.pop)) at2 rfl
  have kp4 : ∀ b o, b ≠ s.heap.objs.size → s.heap.get? b = some o → ((g1.update s.heap.objs.size (Obj.mapSeq (·.push Value.none))).update s.heap.objs.size (Obj.mapSeq (·.pop))).get? b = some o := fun b o hb e =>
    (Heap.get?_update_other _ _ (Ne.symm hb)).trans ((Heap.get?_update_other _ _ (Ne.symm hb)).trans (kp1 b o hb e))
  generalize eg2 : (g1.update s.heap.objs.size (Obj.mapSeq (·.push Value.none))).update s.heap.objs.size (Obj.mapSeq (·.pop)) = g2 at at3 kp4
  refine wpAny_pure ⟨plainId_quiet F.plain_extend_loop _, ?_⟩
  have st1 : ZS s.heap.objs.size z TI TO i1 i2 St1 St2 0 g2 := zs_keep d1 d2 st0 (S := s.heap.objs.size) kp4 ⟨Nat.ne_of_gt lz, Nat.ne_of_gt lTI, Nat.ne_of_gt lTO, Nat.ne_of_gt (d1.lt a1).1, Nat.ne_of_gt (d2.lt a2).1, Nat.ne_of_gt (d1.lt a1).2, Nat.ne_of_gt (d2.lt a2).2⟩
  refine zip_loop (by exact hh) D d1 d2 Z hn hx hz ⟨lz, lTI, lTO, (d1.lt a1).1, (d2.lt a2).1, (d1.lt a1).2, (d2.lt a2).2⟩ n 0 { s with heap := g2 } [] (Nat.sub_zero n) (Nat.zero_le _) rfl st1 ⟨_, at3⟩ .nil (fun t h => nomatch h) (fun j t e => by simp at e) fun h' ts kp e1 e2 e3 e4 e5 => ?_
  exact ⟨rfl, q h' ts (fun b o c1 c2 c3 c4 e => kp b o (Nat.ne_of_lt (Heap.lt_size e)) c1 c2 c3 c4 (kp4 b o (Nat.ne_of_lt (Heap.lt_size e)) e)) e1 e2 e3 e4 e5⟩
end
def tLZ (K : PySem.W.Frag) (ta : TA) : TE := fun σ H Q => ta σ H fun vs H1 => ∃ (a b : Addr) (xs ys : List V), vs = [.ref a, .ref b] ∧ ((SqL K H1 a xs ∧ SqL K H1 b ys) ∨ (SqT K H1 a xs ∧ SqT K H1 b ys)) ∧ xs.length = ys.length + 1 ∧ ys.length ≤ 1000 ∧
  ∀ (H' : Hp) (S : Addr) (ts : List Addr), Same H1 H' → H1 S = none → (∀ t ∈ ts, H1 t = none) → H' S = some (.lst (ts.map V.ref)) → ts.length = ys.length → (∀ (j : Nat) (t : Addr), ts[j]? = some t → ∃ x y, xs[j]? = some x ∧ ys[j]? = some y ∧ H' t = some (.tup [x, y])) → Q (.ref S) H'
section
variable {X : Cx} {pins : List (Addr × Obj)} {σ : L2.St} {H : Hp} {s : Shared}
/-- behind list(zip): the list and its pairs are tracked -/
theorem zip_tracked {h' : Heap} {S : Addr} {ts : List Addr} {xs ys : List V} {its its2 : List Value} {c : Nat} (J : L2.Inv X pins σ H s) (kp : ∀ b o, s.heap.get? b = some o → h'.get? b = some o) (hS : s.heap.objs.size ≤ S) (hl : ts.length = ys.length) (few : ys.length ≤ 1000)
    (at0 : h'.get? S = some { cls := .type "list", dict := none, data := .seq (ts.map Value.ref).toArray c, slots := #[] }) (nd : ts.Nodup) (up : ∀ t ∈ ts, S < t) (pr : Prs h' ts its.toArray its2.toArray) (rx : Vals xs its) (ry : Vals ys its2) :
    ∃ H', L2.Inv X pins σ H' { s with heap := h' } ∧ Same H H' ∧ H S = none ∧ (∀ t ∈ ts, H t = none) ∧ H' S = some (.lst (ts.map V.ref)) ∧ ∀ (j : Nat) (t : Addr), ts[j]? = some t → ∃ x y, xs[j]? = some x ∧ ys[j]? = some y ∧ H' t = some (.tup [x, y]) := by
  have J0 : L2.Inv X pins σ H { s with heap := h' } := J.kept (t' := s.toks) kp
  have fr : ∀ t ∈ ts, s.heap.objs.size ≤ t := fun t h => Nat.le_trans hS (Nat.le_of_lt (up t h))
  have back : ∀ {zs : List V} {us : List Value} {j : Nat} {u : Value}, Vals zs us → us.toArray[j]? = some u → ∃ z, zs[j]? = some z ∧ RelV z u := fun {zs us j u} r e => by
    have e : us[j]? = some u := by simpa using e
    cases q : zs[j]? with
    | none => rw [r.none_of q] at e; cases e
    | some z =>
      obtain ⟨u', e2, rz⟩ := r.get q
      rw [e] at e2
      cases e2
      exact ⟨z, rfl, rz⟩
  have hSn : H S = none := J.hok.fresh hS
  have h1 : L2.Inv X pins σ (upd H S (.lst (ts.map V.ref))) { s with heap := h' } := J0.take (h' := h') (t' := s.toks) (fun b ob _ e => e) (J.fpOk hS hSn) ⟨by rw [List.length_map, hl, sizeLine_eq]; omega, _, c, vals_refs' ts, at0⟩
  obtain ⟨H2, J2, g, q⟩ := DX.takeT (tk := s.toks) (P := fun a vs => ∀ j : Nat, ts[j]? = some a → ∃ x y, xs[j]? = some x ∧ ys[j]? = some y ∧ vs = [x, y]) J ts _ h1 nd fun t ht => by
    refine ⟨fr t ht, by rw [upd_ne (Nat.ne_of_gt (up t ht))]; exact J.hok.fresh (fr t ht), ?_⟩
    obtain ⟨j, hj⟩ := List.getElem?_of_mem ht
    obtain ⟨u1, u2, e1, e2, e3⟩ := pr j t hj
    obtain ⟨x, x1, x2⟩ := back rx e1
    obtain ⟨y, y1, y2⟩ := back ry e2
    refine ⟨[x, y], fun i hi => ?_, fun H2 => ⟨by show 2 ≤ sizeLine; decide, [u1, u2], .cons x2 (.cons y2 .nil), _, e3, rfl, _, rfl⟩⟩
    have lj := (List.getElem?_eq_some_iff.mp hj).1
    have eij : i = j := ((List.getElem?_inj lj nd).mp (by rw [hj, hi])).symm
    subst eij
    exact ⟨x, y, x1, y1, rfl⟩
  refine ⟨H2, J2, fun b o e => g b o (by rw [upd_ne (ne_of_none e hSn)]; exact e), hSn, fun t ht => J.hok.fresh (fr t ht), g _ _ upd_same, fun j t hj => ?_⟩
  obtain ⟨vs, h3, h4⟩ := q t (List.mem_of_getElem? hj)
  obtain ⟨x, y, x1, y1, e⟩ := h3 j hj
  rw [e] at h4
  exact ⟨x, y, x1, y1, h4⟩
where
  vals_refs' : ∀ as : List Addr, Vals (as.map V.ref) (as.map Value.ref)
    | [] => .nil
    | _ :: as => .cons rfl (vals_refs' as)
theorem pe_listZip {a b : Expr} {ta : TA} {p p2 pos pos2 : Pos} (hc : X.calm = true) (hm : X.mg "list" = none) (hm2 : X.mg "zip" = none) (ha : PA X [a, b] ta) (hg : Gl X "list" := by rfl) (hg2 : Gl X "zip" := by rfl)
    (hs : starEach [a, b] X.env = (false, eval a X.env) :: starEach [b] X.env := by rfl) (hpl : (backTo pos2 (starEach [b] X.env)).any (·.1) = false := by rfl)
    (he : starEach [.Call (.Name "zip" p2) [a, b] [] pos2] X.env = (false, eval (.Call (.Name "zip" p2) [a, b] [] pos2) X.env) :: starEach [] X.env := by rfl) : PE X (.Call (.Name "list" p) [.Call (.Name "zip" p2) [a, b] [] pos2] [] pos) (tLZ X.K ta) := by
  refine ⟨fun pins s σ H Q J h => ?_⟩
  refine Call_ (ld_blt J hg hm PyProof.Rows.boot_list (PyProof.Rows.callWith_type1 (PyProof.Rows.args_cons ?_ he) he rfl))
  refine Call_ (ld_blt J hg2 hm2 PyProof.Rows.boot_zip (PyProof.Rows.callWith_type1 (thn (ha.run pos2 pins s σ H _ J h) fun us s1 ⟨vs, H1, J1, r1, q1⟩ => ?_) hs hpl))
  obtain ⟨c, d, xs, ys, ex, cc, hl, few, q⟩ := q1
  subst ex
  obtain ⟨u1, u2, rfl, r2, r3⟩ := vals2 r1
  cases r2
  cases r3
  have ez : ∀ {h' : Heap}, h'.objs.size = s1.heap.objs.size + 5 → s1.heap.objs.size ≤ h'.objs.size := fun {h'} e => by rw [e]; exact Nat.le_add_right _ _
  have lows : ∀ b : Addr, b < s1.heap.objs.size → b ≠ s1.heap.objs.size + 4 ∧ b ≠ s1.heap.objs.size + 3 ∧ b ≠ s1.heap.objs.size ∧ b ≠ s1.heap.objs.size + 1 := fun b hb => by
    exact ⟨Nat.ne_of_lt (Nat.lt_of_lt_of_le hb (Nat.le_add_right _ _)), Nat.ne_of_lt (Nat.lt_of_lt_of_le hb (Nat.le_add_right _ _)), Nat.ne_of_lt hb, Nat.ne_of_lt (Nat.lt_of_lt_of_le hb (Nat.le_add_right _ _))⟩
  rcases cc with ⟨hx, hy⟩ | ⟨hx, hy⟩
  · obtain ⟨its, rx, p1, z1⟩ := J1.list hx
    obtain ⟨its2, ry, p2, z2⟩ := J1.list hy
    have l1 := rx.length
    have l2 := ry.length
    have D := PySem.W.ktu_apart s1.heap.objs.size c d p1.lt p2.lt
    refine call_zip_2 p1.isList p2.isList fun h' hz hTI hTO h1 h2 sz kp => PyProof.Rows.args_nil ?_
    refine list_zip (n := ys.length) (s := { s1 with heap := h' }) (J1.ok.hd hc) D (drw_list D.l1i1) (drw_list D.l2i2) (zp_list D) (by simp; omega) (by simp; omega) (by omega)
      (fun S eS => ⟨hTI, ⟨h1, p1.isList.at fun o e => kp _ o e⟩, ⟨h2, p2.isList.at fun o e => kp _ o e⟩, .inl ⟨hz, _, _, hTO⟩⟩) hz fun h2' ts kp2 e1 ⟨c0, e2⟩ e3 e4 e5 => ?_
    have kk : ∀ b o, s1.heap.get? b = some o → h2'.get? b = some o := fun b o e => let ⟨n1, n2, n3, n4⟩ := lows b (Heap.lt_size e); kp2 b o n1 n2 n3 n4 (kp b o e)
    obtain ⟨H', J', k1, k2, k3, k4, k5⟩ := zip_tracked J1 kk (ez sz) e1 few e2 e3 e4 e5 rx ry
    exact ⟨.ref _, H', J', rfl, q H' _ ts k1 k2 k3 k4 e1 k5⟩
  · obtain ⟨its, rx, p1, z1⟩ := J1.tuple hx
    obtain ⟨its2, ry, p2, z2⟩ := J1.tuple hy
    have l1 := rx.length
    have l2 := ry.length
    have lt1 : c < s1.heap.objs.size := let ⟨_, e, _⟩ := p1; Heap.lt_size e
    have lt2 : d < s1.heap.objs.size := let ⟨_, e, _⟩ := p2; Heap.lt_size e
    have D := PySem.W.ktu_apart s1.heap.objs.size c d lt1 lt2
    refine RZ.call_zipT (show s1.heap.IsTuple c its.toArray from p1) (show s1.heap.IsTuple d its2.toArray from p2) fun h' hz hTI hTO h1 h2 sz kp => PyProof.Rows.args_nil ?_
    refine list_zip (n := ys.length) (s := { s1 with heap := h' }) (J1.ok.hd hc) D (drw_tup D.l1i1) (drw_tup D.l2i2) (zp_tup D) (by simp; omega) (by simp; omega) (by omega)
      (fun S eS => ⟨hTI, ⟨h1, Heap.IsTuple.at (show s1.heap.IsTuple c its.toArray from p1) fun o e => kp _ o e⟩, ⟨h2, Heap.IsTuple.at (show s1.heap.IsTuple d its2.toArray from p2) fun o e => kp _ o e⟩, .inl ⟨hz, _, _, hTO⟩⟩) hz fun h2' ts kp2 e1 ⟨c0, e2⟩ e3 e4 e5 => ?_
    have kk : ∀ b o, s1.heap.get? b = some o → h2'.get? b = some o := fun b o e => let ⟨n1, n2, n3, n4⟩ := lows b (Heap.lt_size e); kp2 b o n1 n2 n3 n4 (kp b o e)
    obtain ⟨H', J', k1, k2, k3, k4, k5⟩ := zip_tracked J1 kk (ez sz) e1 few e2 e3 e4 e5 rx ry
    exact ⟨.ref _, H', J', rfl, q H' _ ts k1 k2 k3 k4 e1 k5⟩
end
/-- new data, several at once -/
theorem Rl.grow {K : PySem.W.Frag} {F G : Hp} {α : Nat → Addr} {S : DSt} {σ : L2.St} {H H' : Hp} (R : Rl K F G α S σ H) (s : Same H H') (L : List Addr) (hn : ∀ a ∈ L, H a = none) : ∃ G', GX F G G' ∧ Rl K F G' α S σ H' ∧ ∀ a ∈ L, G' a = H' a := by
  have sg : Same G (fun a => if a ∈ L then H' a else G a) := fun a o e => by
    have : a ∉ L := fun h => by
      have := R.fG a o e
      rw [hn a h] at this
      cases this
    show (if a ∈ L then H' a else G a) = _
    rw [if_neg this]
    exact e
  refine ⟨fun a => if a ∈ L then H' a else G a, ⟨fun a o e => ?_, fun a o hF hG e => ?_⟩, ⟨R.fF.trans s, fun a o e => ?_, R.ln, fun i u hu => ?_, fun n mo hm => ?_, R.inj⟩, fun a h => if_pos h⟩
  · exact sg a o e
  · have e : (if a ∈ L then H' a else G a) = some o := e
    have : a ∉ L := fun h => by
      cases q : F a with
      | none => exact hF q
      | some x =>
        have := R.fF a x q
        rw [hn a h] at this
        cases this
    rw [if_neg this, hG] at e
    cases e
  · have e : (if a ∈ L then H' a else G a) = some o := e
    by_cases h : a ∈ L
    · rw [if_pos h] at e
      exact e
    · rw [if_neg h] at e
      exact s _ _ (R.fG a o e)
  · obtain ⟨v, e, uv⟩ := R.sl i u hu
    exact ⟨v, e, uv.on sg fun n l => ⟨rfl, l⟩⟩
  · obtain ⟨h1, h2, o, h3, h4⟩ := R.mu n mo hm
    have : α n ∉ L := fun h => by
      rw [hn _ h] at h3
      cases h3
    refine ⟨h1, ?_, o, s _ _ h3, h4.on sg fun n l => ⟨rfl, l⟩⟩
    show (if α n ∈ L then H' (α n) else G (α n)) = none
    rw [if_neg this]
    exact h2
def zipD : List D → List D → List D
  | d :: ds, e :: es => .tup [d, e] :: zipD ds es
  | _, _ => []
theorem zip_dats {K : PySem.W.Frag} {G : Hp} : ∀ {ds es : List D} {xs ys : List V} {ts : List Addr}, Dats K G ds xs → Dats K G es ys → ds.length = es.length + 1 → ts.length = es.length → (∀ (j : Nat) (t : Addr), ts[j]? = some t → ∃ x y, xs[j]? = some x ∧ ys[j]? = some y ∧ G t = some (.tup [x, y])) → Dats K G (zipD ds es) (ts.map V.ref)
  | _, [], _, _, ts, _, _, h, hl, _ => by
    rw [List.eq_nil_of_length_eq_zero hl]
    rename_i ds _ _ _ _
    cases ds <;> (simp only [zipD]; exact .nil)
  | [], _ :: _, _, _, _, _, _, h, _, _ => by simp at h
  | d :: ds, e :: es, _, _, [], _, _, _, hl, _ => by simp at hl
  | d :: ds, e :: es, _, _, t :: ts, hx, hy, h, hl, q => by
    obtain ⟨x, xr, rfl, x1, x2⟩ := of_dats hx
    obtain ⟨y, yr, rfl, y1, y2⟩ := of_dats hy
    obtain ⟨x', y', e1, e2, e3⟩ := q 0 t rfl
    cases e1
    cases e2
    exact .cons (.tup e3 (.cons x1 (.cons y1 .nil))) (zip_dats x2 y2 (Nat.succ.inj h) (Nat.succ.inj hl) fun j t' e => by
      obtain ⟨x', y', e1, e2, e3⟩ := q (j + 1) t' (by simpa using e)
      exact ⟨x', y', by simpa using e1, by simpa using e2, e3⟩)
section
variable {X : Cx} {a b : Expr} {S S1 S2 : DSt} {u w : U} {ds es : List D} {p p2 pos pos2 : Pos}
/-- both lists, or both tuples -/
inductive Both (m : List (Option MO)) : U → U → List D → List D → Prop
  | lst {u w : U} {ds es : List D} : LU m u ds → LU m w es → Both m u w ds es
  | tup (ds es : List D) : Both m (.dat (.tup ds)) (.dat (.tup es)) ds es
theorem de_listZip (hc : X.calm = true) (hm : X.mg "list" = none) (hm2 : X.mg "zip" = none) (ha : DE X a S u S1) (hb : DE X b S1 w S2) (q : Both S2.m u w ds es) (hl : ds.length = es.length + 1) (few : es.length ≤ 1000) (hg : Gl X "list" := by rfl) (hg2 : Gl X "zip" := by rfl)
    (hs : starEach [a, b] X.env = (false, eval a X.env) :: starEach [b] X.env := by rfl) (hs2 : starEach [b] X.env = (false, eval b X.env) :: starEach [] X.env := by rfl) (hpl : (backTo pos2 (starEach [b] X.env)).any (·.1) = false := by rfl)
    (he : starEach [.Call (.Name "zip" p2) [a, b] [] pos2] X.env = (false, eval (.Call (.Name "zip" p2) [a, b] [] pos2) X.env) :: starEach [] X.env := by rfl) : DE X (.Call (.Name "list" p) [.Call (.Name "zip" p2) [a, b] [] pos2] [] pos) S (.dat (.lst (zipD ds es))) S2 :=
  PE.wk (pe_listZip hc hm hm2 (da_cons ha (da_cons hb da_nil hs2) hs) hg hg2 hs hpl he) fun σ H Q ⟨F, G, α, R, k⟩ => ⟨F, G, α, R, fun vs G1 α1 H1 g1 a1 R1 uv => by
    obtain ⟨v, r, rfl, h1, v2, r2, rfl, h2, h3⟩ := uv
    have e : r2 = [] := h3
    subst e
    have fin : ∀ (c d : Addr) (xs ys : List V), Dats X.K G1 ds xs → Dats X.K G1 es ys → v = .ref c → v2 = .ref d → ((SqL X.K H1 c xs ∧ SqL X.K H1 d ys) ∨ (SqT X.K H1 c xs ∧ SqT X.K H1 d ys)) → ∃ (a b : Addr) (xs ys : List V), [v, v2] = [.ref a, .ref b] ∧ ((SqL X.K H1 a xs ∧ SqL X.K H1 b ys) ∨ (SqT X.K H1 a xs ∧ SqT X.K H1 b ys)) ∧ xs.length = ys.length + 1 ∧ ys.length ≤ 1000 ∧
        ∀ (H' : Hp) (S : Addr) (ts : List Addr), Same H1 H' → H1 S = none → (∀ t ∈ ts, H1 t = none) → H' S = some (.lst (ts.map V.ref)) → ts.length = ys.length → (∀ (j : Nat) (t : Addr), ts[j]? = some t → ∃ x y, xs[j]? = some x ∧ ys[j]? = some y ∧ H' t = some (.tup [x, y])) → Q (.ref S) H' := by
      intro c d xs ys dx dy ec ed sq
      refine ⟨c, d, xs, ys, by rw [ec, ed], sq, by rw [dx.len, dy.len]; exact hl, by rw [dy.len]; exact few, fun H' S0 ts sm n1 n2 e1 e2 e3 => ?_⟩
      obtain ⟨G2, g2, R2, q2⟩ := R1.grow sm (S0 :: ts) fun a h => by
        rcases List.mem_cons.mp h with z | z
        · rw [z]; exact n1
        · exact n2 a z
      have hz := zip_dats (dx.mono g2.1) (dy.mono g2.1) hl (e2.trans dy.len) fun j t hj => by
        obtain ⟨x, y, f1, f2, f3⟩ := e3 j t hj
        exact ⟨x, y, f1, f2, (q2 t (List.mem_cons_of_mem _ (List.mem_of_getElem? hj))).trans f3⟩
      exact k _ G2 α1 H' (g1.trans g2) a1 R2 (.lst ((q2 S0 List.mem_cons_self).trans e1) hz)
    cases q with
    | lst l1 l2 =>
      obtain ⟨c, xs, rfl, x1, x2⟩ := l1.real R1 h1
      obtain ⟨d, ys, rfl, y1, y2⟩ := l2.real R1 h2
      exact fin c d xs ys x2 y2 rfl rfl (.inl ⟨.of x1, .of y1⟩)
    | tup ds es =>
      obtain ⟨c, xs, rfl, x1, x2⟩ := of_tup h1
      obtain ⟨d, ys, rfl, y1, y2⟩ := of_tup h2
      exact fin c d xs ys x2 y2 rfl rfl (.inr ⟨.of (R1.fG _ _ x1), .of (R1.fG _ _ y1)⟩)⟩
end
end DL
/-! DS: sum(xs, []) of lists. -/
namespace DL
open PySem PySem.Spec PyProof.Rows L2
abbrev LstAt (h : Heap) (t : Addr) (vs : List Value) : Prop := ∃ c, h.get? t = some { cls := .type "list", dict := none, data := .seq vs.toArray c, slots := #[] }
theorem sum_args2 (a b : Value) : argsOk "sum" ⟨[a, b], []⟩ := by unfold argsOk; kernel_rfl
section
variable {P : Program} {w : World} {A : Around} {E : Value → Shared → Prop}
theorem sum_loop {it S l : Addr} {items : Array Value} {Ls : List (List Value)} {s0 : Shared} {R : Result → Shared → Prop} (hh : A.handled = none) (hn : items.size = Ls.length) (nl : l ≠ it) (nS : l ≠ S) (nI : it ≠ S) (hz : (Ls.map List.length).sum ≤ 100000)
    (low : it ≠ S ∧ s0.heap.objs.size ≤ it ∧ s0.heap.objs.size ≤ S) (parts : ∀ (j : Nat) (L : List Value), Ls[j]? = some L → ∃ a, items[j]? = some (.ref a) ∧ LstAt s0.heap a L) :
    ∀ (m k : Nat) (s : Shared) (t : Addr) (acc : List Value), Ls.length - k = m → k ≤ Ls.length → (∀ b o, s0.heap.get? b = some o → s.heap.get? b = some o) → s.heap.IsListIter it l k → s.heap.IsList l items → (∃ c, s.heap.get? S = some { cls := .type "list", dict := none, data := .seq #[.ref t] c, slots := #[] }) → LstAt s.heap t acc → t ≠ it → t ≠ S →
      acc.length ≤ ((Ls.take k).map List.length).sum + 100000 → (0 < k → s0.heap.objs.size ≤ t) →
      (∀ h' t', (∀ b o, s0.heap.get? b = some o → h'.get? b = some o) → LstAt h' t' (acc ++ (Ls.drop k).flatten) → (0 < Ls.length → s0.heap.objs.size ≤ t') → R (.ok (.ret (.ref t'))) { s with heap := h' }) →
      codeAny (model P w) A (.builtin "sum.loop" ⟨[.ref it, .ref S, rawInt 2, rawInt 0], []⟩) R s
  | 0, k, s, t, acc, hm, hk, kp, hit, hl, ⟨c, hS⟩, ⟨ct, ht⟩, n1, n2, sz, fr, q => by
    have ek : k = Ls.length := by omega
    subst ek
    refine codeAny_builtin F.entry_sum_loop ?_
    rw [Around.under_plainId F.plain_sum_loop _]
    show wpAny _ A.in1 (seqItems? (.ref S) >>= _) _ _ s
    refine wpAny_bind (wpAny_seqItems hS rfl ?_)
    show wpAny _ A.in1 (tryCatch (pyNext (.ref it)) _ >>= _) _ _ s
    refine wpAny_bind (wpAny_tryCatch (wpAny_pyNext_list_end (A := A.in1) hh hit hl (Array.getElem?_eq_none (by omega)) fun h' eb => wpAny_pure ?_))
    refine q h' t (fun b o e => ?_) ⟨ct, ?_⟩ fr
    · exact eb b o (Nat.ne_of_lt (Nat.lt_of_lt_of_le (Heap.lt_size e) low.2.1)) (kp b o e)
    · rw [List.drop_length, List.flatten_nil, List.append_nil]
      exact eb t _ n1 ht
  | m + 1, k, s, t, acc, hm, hk, kp, hit, hl, ⟨c, hS⟩, ⟨ct, ht⟩, n1, n2, sz, fr, q => by
    have hk1 : k < Ls.length := by omega
    obtain ⟨a, e1, ca, e2⟩ := parts k Ls[k] (List.getElem?_eq_getElem hk1)
    refine codeAny_builtin F.entry_sum_loop ?_
    rw [Around.under_plainId F.plain_sum_loop _]
    show wpAny _ A.in1 (seqItems? (.ref S) >>= _) _ _ s
    refine wpAny_bind (wpAny_seqItems hS rfl ?_)
    show wpAny _ A.in1 (tryCatch (pyNext (.ref it)) _ >>= _) _ _ s
    refine wpAny_bind (wpAny_tryCatch (wpAny_pyNext_list_item (A := A.in1) hit hl e1 fun h1 hit1 b1 => ?_))
    have ne_a : a ≠ it ∧ a ≠ S := ⟨Nat.ne_of_lt (Nat.lt_of_lt_of_le (Heap.lt_size e2) low.2.1), Nat.ne_of_lt (Nat.lt_of_lt_of_le (Heap.lt_size e2) low.2.2)⟩
    have ht1 := (b1.2 t n1).trans ht
    have ha1 := (b1.2 a ne_a.1).trans (kp a _ e2)
    have hS1 := (b1.2 S (Ne.symm nI)).trans hS
    have hl1 : h1.IsList l items := hl.extBut b1.extBut nl
    show wpAny _ A.in1 ((holding [Value.ref a] (binaryOp .Add (.ref t) (.ref a))).attempt >>= _) _ _ _
    have hsum : acc.length + (Ls[k]).length ≤ 200000 := by
      have h3 : ((Ls.take (k + 1)).map List.length).sum ≤ (Ls.map List.length).sum := by
        have e := congrArg (fun z => (z.map List.length).sum) (List.take_append_drop (k + 1) Ls)
        simp only [List.map_append, List.sum_append] at e
        omega
      have h4 : ((Ls.take (k + 1)).map List.length).sum = ((Ls.take k).map List.length).sum + (Ls[k]).length := by
        have e : Ls.take (k + 1) = Ls.take k ++ [Ls[k]] := by rw [List.take_add_one, List.getElem?_eq_getElem hk1]; rfl
        rw [e, List.map_append, List.sum_append]
        simp
      omega
    have sz' : (acc ++ Ls[k]).length ≤ ((Ls.take (k + 1)).map List.length).sum + 100000 := by
      have e : Ls.take (k + 1) = Ls.take k ++ [Ls[k]] := by rw [List.take_add_one, List.getElem?_eq_getElem hk1]; rfl
      rw [e, List.map_append, List.sum_append, List.length_append]
      simp only [List.map_cons, List.map_nil, List.sum_cons, List.sum_nil]
      omega
    refine wpAny_bind (wpAny_attempt (wpAny_holding (PySem.P.add_list (s := { s with heap := h1 }) ht1 ha1 ?_ (by rw [List.size_toArray, List.size_toArray, sizeLine_eq]; omega))))
    have ea : acc.toArray ++ (Ls[k]).toArray = (acc ++ Ls[k]).toArray := by simp
    rw [ea]
    show wpAny _ A.in1 (updateSeq S (fun _ => #[.ref h1.objs.size]) >>= _) _ _ _
    have sh1 : s0.heap.objs.size ≤ h1.objs.size := by rw [b1.1]; exact Nat.le_of_lt (Nat.lt_of_le_of_lt low.2.1 (let ⟨_, e, _⟩ := hit; Heap.lt_size e))
    have kpush : ∀ b o, h1.get? b = some o → (h1.push { cls := .type "list", data := .seq (acc ++ Ls[k]).toArray }).get? b = some o := fun b o e => Heap.get?_push_of_some _ e
    have lS : S < h1.objs.size := Heap.lt_size hS1
    refine wpAny_bind (wpAny_updateSeq (s := { s with heap := h1.push _ }) (kpush _ _ hS1) rfl ?_)
    have at2 := Heap.get?_update_self (Obj.mapSeq fun _ => #[Value.ref h1.objs.size]) (kpush _ _ hS1) rfl
    refine wpAny_bind (wpAny_letGo (wpAny_bind (wpAny_updateSeq at2 rfl (wpAny_pure ⟨plainId_quiet F.plain_sum_loop _, ?_⟩))))
    have at3 := Heap.get?_update_self (Obj.mapSeq fun _ => #[Value.ref h1.objs.size]) at2 rfl
    have kk : ∀ b o, b ≠ S → h1.get? b = some o → (((h1.push { cls := .type "list", data := .seq (acc ++ Ls[k]).toArray }).update S (Obj.mapSeq fun _ => #[Value.ref h1.objs.size])).update S (Obj.mapSeq fun _ => #[Value.ref h1.objs.size])).get? b = some o := fun b o hb e =>
      (Heap.get?_update_other _ _ (Ne.symm hb)).trans ((Heap.get?_update_other _ _ (Ne.symm hb)).trans (kpush b o e))
    have atN : (((h1.push { cls := .type "list", data := .seq (acc ++ Ls[k]).toArray }).update S (Obj.mapSeq fun _ => #[Value.ref h1.objs.size])).update S (Obj.mapSeq fun _ => #[Value.ref h1.objs.size])).get? h1.objs.size = some { cls := .type "list", data := .seq (acc ++ Ls[k]).toArray } :=
      (Heap.get?_update_other _ _ (Nat.ne_of_lt lS)).trans ((Heap.get?_update_other _ _ (Nat.ne_of_lt lS)).trans (Heap.get?_push_size _ rfl))
    refine sum_loop hh hn nl nS nI hz low parts m (k + 1) _ h1.objs.size (acc ++ Ls[k]) (by omega) (by omega) (fun b o e => kk b o (Nat.ne_of_lt (Nat.lt_of_lt_of_le (Heap.lt_size e) low.2.2)) ((b1.2 b (Nat.ne_of_lt (Nat.lt_of_lt_of_le (Heap.lt_size e) low.2.1))).trans (kp b o e)))
      (hit1.at fun o e => kk _ o nI e) (hl1.at fun o e => kk _ o nS e) ⟨_, at3⟩ ⟨_, atN⟩ (fun z => ?_) (Nat.ne_of_gt lS) sz' (fun _ => sh1) fun h' t' k1 k2 k3 => q h' t' k1 ?_ k3
    · obtain ⟨_, e, _⟩ := hit1
      have := Heap.lt_size e
      rw [z] at this
      exact absurd this (Nat.lt_irrefl _)
    · rw [List.drop_eq_getElem_cons hk1, List.flatten_cons, ← List.append_assoc]
      exact k2
theorem sum_lists {l st : Addr} {items : Array Value} {c0 : List Value} {Ls : List (List Value)} {s : Shared} {Q : Value → Shared → Prop} (hh : A.handled = none) (hl : s.heap.IsList l items) (hn : items.size = Ls.length) (h0 : 0 < Ls.length) (hst : LstAt s.heap st c0) (hc0 : c0.length ≤ 1000) (hz : (Ls.map List.length).sum ≤ 100000)
    (parts : ∀ (j : Nat) (L : List Value), Ls[j]? = some L → ∃ a, items[j]? = some (.ref a) ∧ LstAt s.heap a L)
    (q : ∀ h' t', (∀ b o, s.heap.get? b = some o → h'.get? b = some o) → LstAt h' t' (c0 ++ Ls.flatten) → s.heap.objs.size ≤ t' → Q (.ref t') { s with heap := h' }) :
    wpAny (model P w) A (call (.builtin "sum") [.ref l, .ref st]) Q E s := by
  refine call_function_tree F.kind_sum F.plain_sum F.entry_sum (sum_args2 _ _) ?_
  unfold Builtin.«sum»
  simp only [List.length_cons, List.length_nil]
  rw [if_neg (by decide)]
  refine wpAny_bind (wpAny_of_eq (show Builtin.Builtins.bindParams "sum" ["start"] 0 ⟨[.ref st], []⟩ = pure [some (.ref st)] from rfl) ?_)
  refine wpAny_bind (wpAny_pyIter_list hl ?_)
  refine wpAny_bind (wpAny_pure ?_)
  obtain ⟨cst, est⟩ := hst
  have lt1 : st < s.heap.objs.size := Heap.lt_size est
  have ll : l < s.heap.objs.size := let ⟨_, e, _⟩ := hl; Heap.lt_size e
  have ty : Shared.TypeIs { s with heap := s.heap.push { cls := .type "list_iterator", data := .fields #[.ref l, .int 0 0] } } (.ref st) "list" := ⟨_, Heap.get?_push_of_some _ est, rfl⟩
  simp only [List.forIn_cons, List.forIn_nil]
  refine wpAny_bind (wpAny_bind (wpAny_bind (wpAny_isInstance (T := "list") (b := false) ty F.sub_list_str ?_)))
  simp only [Bool.false_eq_true, if_false]
  refine wpAny_pure (wpAny_bind (wpAny_bind (wpAny_isInstance (T := "list") (b := false) ty F.sub_list_bytes ?_)))
  simp only [Bool.false_eq_true, if_false]
  refine wpAny_pure (wpAny_bind (wpAny_bind (wpAny_isInstance (T := "list") (b := false) ty F.sub_list_bytearray ?_)))
  simp only [Bool.false_eq_true, if_false]
  refine wpAny_pure (wpAny_pure (wpAny_bind (wpAny_newObj_type ?_)))
  have szp : (s.heap.push { cls := .type "list_iterator", data := .fields #[.ref l, .int 0 0] }).objs.size = s.heap.objs.size + 1 := Heap.size_push ..
  have kp : ∀ b o, s.heap.get? b = some o → ((s.heap.push { cls := .type "list_iterator", data := .fields #[.ref l, .int 0 0] }).push { cls := .type "list", data := .seq [Value.ref st].toArray }).get? b = some o := fun b o e => Heap.get?_push_of_some _ (Heap.get?_push_of_some _ e)
  have nIS : s.heap.objs.size ≠ (s.heap.push { cls := .type "list_iterator", data := .fields #[.ref l, .int 0 0] }).objs.size := by rw [szp]; exact Nat.ne_of_lt (Nat.lt_succ_self _)
  have leS : s.heap.objs.size ≤ (s.heap.push { cls := .type "list_iterator", data := .fields #[.ref l, .int 0 0] }).objs.size := by rw [szp]; exact Nat.le_succ _
  refine wpAny_pure ⟨plainId_quiet F.plain_sum_loop _, sum_loop (it := s.heap.objs.size) (s0 := s) (by exact hh) hn (Nat.ne_of_lt ll) (Nat.ne_of_lt (Nat.lt_of_lt_of_le ll leS)) nIS hz ⟨nIS, Nat.le_refl _, leS⟩ parts Ls.length 0 _ st c0 (Nat.sub_zero _) (Nat.zero_le _) kp ⟨_, Heap.get?_push_of_some _ (Heap.get?_push_size _ rfl), rfl, rfl⟩
    (hl.at fun o e => kp _ o e) ⟨_, Heap.get?_push_size _ rfl⟩ ⟨_, kp _ _ est⟩ (Nat.ne_of_lt lt1) (Nat.ne_of_lt (Nat.lt_of_lt_of_le lt1 leS)) (by omega) (fun h => absurd h (Nat.lt_irrefl _)) fun h' t' k1 k2 k3 => q h' t' k1 k2 (k3 h0)⟩
end
end DL
/-! DR: repr of data; sum; chains; membership in tuples. -/
namespace DL
open PySem PySem.Spec PyProof.Rows L2
/-! ### small data -/
mutual
/-- data whose text is short: no int beyond 1000, texts of five signs at most, the lengths at each depth -/
def mild : List Nat → D → Bool
  | _, .non => true
  | _, .bl _ => true
  | _, .int i => decide (i.natAbs ≤ 1000)
  | _, .str x => decide (x.cps.size ≤ 5) && PyData.canLay0 (.str x)
  | L :: r, .lst ds => decide (ds.length ≤ L) && milds r ds
  | L :: r, .tup ds => decide (ds.length ≤ L) && milds r ds
  | _, _ => false
def milds : List Nat → List D → Bool
  | _, [] => true
  | r, d :: ds => mild r d && milds r ds
end
theorem milds_all {r : List Nat} : ∀ {ds : List D}, milds r ds = true ↔ ∀ d ∈ ds, mild r d = true
  | [] => by simp [milds]
  | d :: ds => by simp only [milds, Bool.and_eq_true, List.mem_cons, forall_eq_or_imp, milds_all (ds := ds)]
theorem mild_lst {L : Nat} {r : List Nat} {ds : List D} (h1 : ds.length ≤ L) (h : ∀ d ∈ ds, mild r d = true) : mild (L :: r) (.lst ds) = true := by
  simp only [mild, Bool.and_eq_true, decide_eq_true_iff]
  exact ⟨h1, milds_all.mpr h⟩
theorem mild_tup {L : Nat} {r : List Nat} {ds : List D} (h1 : ds.length ≤ L) (h : ∀ d ∈ ds, mild r d = true) : mild (L :: r) (.tup ds) = true := by
  simp only [mild, Bool.and_eq_true, decide_eq_true_iff]
  exact ⟨h1, milds_all.mpr h⟩
theorem mild_int {r : List Nat} {i : Int} (h : i.natAbs ≤ 1000) : mild r (.int i) = true := by
  cases r <;> simp only [mild, decide_eq_true_iff] <;> exact h
theorem mild_bl {r : List Nat} {b : Bool} : mild r (.bl b) = true := by cases r <;> simp only [mild]
theorem mild_non {r : List Nat} : mild r .non = true := by cases r <;> simp only [mild]
def wB : List Nat → Nat
  | [] => 12
  | L :: r => L * (wB r + 1) + 12
theorem wB_min : ∀ r : List Nat, 12 ≤ wB r
  | [] => Nat.le_refl _
  | L :: r => Nat.le_add_left _ _
theorem log1000 {n : Nat} (h : n ≤ 1000) : n.log2 ≤ 9 := by
  by_cases h0 : n = 0
  · rw [h0]; decide
  · have := (Nat.log2_lt h0 (k := 10)).mpr (by omega)
    omega
theorem shown_int1000 {i : Int} (h : i.natAbs ≤ 1000) : (PyData.shown (.int i)).length ≤ 13 := by
  have : (toString i).length ≤ 12 + 1 := PySem.int_text_length_le10 (by decide) (by omega)
  simp only [PyData.shown]
  rw [PySem.ofString_length]
  exact this
mutual
theorem mild.ok : ∀ (r : List Nat) (d : D), mild r d = true → good r.length d = true ∧ (toPy d).weight ≤ wB r ∧ (toPy d).leavesShort 13 = true ∧ (toPy d).showable = true
  | r, .non, _ => ⟨good_non, by simp only [toPy, PyData.weight]; exact Nat.zero_le _, by simp only [toPy, PyData.leavesShort], by simp only [toPy, PyData.showable]⟩
  | r, .bl b, _ => ⟨good_bl, by simp only [toPy, PyData.weight]; exact Nat.zero_le _, by simp only [toPy, PyData.leavesShort], by simp only [toPy, PyData.showable]⟩
  | r, .int i, h => by
    have h : i.natAbs ≤ 1000 := by cases r <;> simpa only [mild, decide_eq_true_iff] using h
    have hl := log1000 h
    have hw := wB_min r
    refine ⟨good_int, ?_, ?_, ?_⟩
    · simp only [toPy, PyData.weight]
      split <;> omega
    · simp only [toPy, PyData.leavesShort, decide_eq_true_iff]
      exact shown_int1000 h
    · simp only [toPy, PyData.showable, decide_eq_true_iff]
      omega
  | r, .str x, h => by
    have h : x.cps.size ≤ 5 ∧ PyData.canLay0 (.str x) = true := by cases r <;> simpa only [mild, Bool.and_eq_true, decide_eq_true_iff] using h
    have hw := wB_min r
    refine ⟨?_, ?_, ?_, ?_⟩
    · cases hr : r.length <;> simp only [good] <;> exact h.2
    · simp only [toPy, PyData.weight]
      omega
    · exact PyData.leavesShort_of_canLay0 13 _ (by simpa only [toPy] using h.2) (by simp only [toPy, PyData.intsShort])
    · simp only [toPy, PyData.showable]
  | L :: r, .lst ds, h => by
    simp only [mild, Bool.and_eq_true, decide_eq_true_iff] at h
    obtain ⟨h1, h2, h3, h4⟩ := milds.ok r ds h.2
    refine ⟨?_, ?_, ?_, ?_⟩
    · simp only [List.length_cons, good]; exact h1
    · simp only [toPy, PyData.weight, wB]
      have : ds.length * (wB r + 1) ≤ L * (wB r + 1) := Nat.mul_le_mul_right _ h.1
      omega
    · simp only [toPy, PyData.leavesShort]; exact h3
    · simp only [toPy, PyData.showable]; exact h4
  | L :: r, .tup ds, h => by
    simp only [mild, Bool.and_eq_true, decide_eq_true_iff] at h
    obtain ⟨h1, h2, h3, h4⟩ := milds.ok r ds h.2
    refine ⟨?_, ?_, ?_, ?_⟩
    · simp only [List.length_cons, good]; exact h1
    · simp only [toPy, PyData.weight, wB]
      have : ds.length * (wB r + 1) ≤ L * (wB r + 1) := Nat.mul_le_mul_right _ h.1
      omega
    · simp only [toPy, PyData.leavesShort]; exact h3
    · simp only [toPy, PyData.showable]; exact h4
  | [], .lst _, h => by simp [mild] at h
  | [], .tup _, h => by simp [mild] at h
  | [], .rol _, h => by simp [mild] at h
  | [], .dic _ _ _, h => by simp [mild] at h
  | [], .lkd _ _, h => by simp [mild] at h
  | [], .exc _ _ _ _, h => by simp [mild] at h
  | [], .ins _ _ _, h => by simp [mild] at h
  | [], .ty _, h => by simp [mild] at h
  | _ :: _, .rol _, h => by simp [mild] at h
  | _ :: _, .dic _ _ _, h => by simp [mild] at h
  | _ :: _, .lkd _ _, h => by simp [mild] at h
  | _ :: _, .exc _ _ _ _, h => by simp [mild] at h
  | _ :: _, .ins _ _ _, h => by simp [mild] at h
  | _ :: _, .ty _, h => by simp [mild] at h
theorem milds.ok : ∀ (r : List Nat) (ds : List D), milds r ds = true → goods r.length ds = true ∧ PyData.weightAll (toPys ds) ≤ ds.length * (wB r + 1) ∧ PyData.leavesShortAll 13 (toPys ds) = true ∧ PyData.showableAll (toPys ds) = true
  | r, [], _ => by
    refine ⟨by simp only [goods], by simp only [toPys, PyData.weightAll]; exact Nat.zero_le _, by simp only [toPys, PyData.leavesShortAll], by simp only [toPys, PyData.showableAll]⟩
  | r, d :: ds, h => by
    simp only [milds, Bool.and_eq_true] at h
    obtain ⟨a1, a2, a3, a4⟩ := mild.ok r d h.1
    obtain ⟨b1, b2, b3, b4⟩ := milds.ok r ds h.2
    refine ⟨by simp only [goods, a1, b1, Bool.and_self], ?_, by simp only [toPys, PyData.leavesShortAll, a3, b3, Bool.and_self], by simp only [toPys, PyData.showableAll, a4, b4, Bool.and_self]⟩
    simp only [toPys, PyData.weightAll, List.length_cons]
    rw [Nat.add_mul]
    omega
end
theorem mild.short {r : List Nat} {d : D} (h : mild r d = true) (hw : 15 * wB r + 13 ≤ 16777216 := by decide) : (toPy d).shown.length ≤ sizeLine := by
  obtain ⟨_, h2, h3, _⟩ := mild.ok r d h
  have := PyData.shown_le 13 (by decide) _ h3
  have : (13 + 2) * (toPy d).weight ≤ 15 * wB r := Nat.mul_le_mul (by decide) h2
  rw [sizeLine_eq]
  omega
/-- the text of a datum -/
def reprD (d : D) : Str := (toPy d).shown
theorem good.rise : ∀ (n m : Nat) (d : D), n ≤ m → good n d = true → good m d = true := by
  have h := fun (k : Nat) => (show ∀ d : D, sizeOf d ≤ k → ∀ n m : Nat, n ≤ m → good n d = true → good m d = true from ?_)
  · exact fun n m d h1 h2 => h (sizeOf d) d (Nat.le_refl _) n m h1 h2
  · induction k with
    | zero => intro d hd; cases d <;> simp at hd
    | succ k ih =>
      intro d hd n m hnm hg
      cases d with
      | non => exact good_non
      | bl b => exact good_bl
      | int i => exact good_int
      | str x =>
        have : PyData.canLay0 (.str x) = true := by cases n <;> simpa only [good] using hg
        cases m <;> simpa only [good] using this
      | lst ds =>
        cases n with
        | zero => simp [good] at hg
        | succ n =>
          cases m with
          | zero => omega
          | succ m =>
            simp only [good] at hg ⊢
            refine goods_all.mpr fun e he => ih e ?_ n m (by omega) (goods_all.mp hg e he)
            have := List.sizeOf_lt_of_mem he
            simp at hd
            omega
      | tup ds =>
        cases n with
        | zero => simp [good] at hg
        | succ n =>
          cases m with
          | zero => omega
          | succ m =>
            simp only [good] at hg ⊢
            refine goods_all.mpr fun e he => ih e ?_ n m (by omega) (goods_all.mp hg e he)
            have := List.sizeOf_lt_of_mem he
            simp at hd
            omega
      | dic t ks vs => cases n <;> simp [good] at hg
      | lkd ks vs => cases n <;> simp [good] at hg
      | exc _ _ _ _ => cases n <;> simp [good] at hg
      | ins C ns vs => cases n <;> simp [good] at hg
      | rol ds => cases n <;> simp [good] at hg
      | ty n' => cases n <;> simp [good] at hg
theorem mild.good60 {r : List Nat} {d : D} (h : mild r d = true) (hl : r.length ≤ 60 := by decide) : good 60 d = true := good.rise _ _ _ hl (mild.ok r d h).1
/-! ### repr -/
def isSeqD : D → Bool
  | .lst _ => true
  | .tup _ => true
  | _ => false
section
variable {X : Cx} {a b : Expr} {S S1 S2 : DSt} {u w z : U} {d : D} {pos : Pos}
/-- repr(x) of a list or tuple of data, no repr under way -/
def rReprD (K : PySem.W.Frag) : List V → Hp → VK → Prop := fun xs H Q => ∃ (x : V) (d : PyData), xs = [x] ∧ Dp K H x d ∧ d.showable = true ∧ d.hasDict = false ∧ d.depth ≤ 60 ∧ d.shown.length ≤ sizeLine ∧ (∃ p, x = .ref p) ∧ Q (.str d.shown) H
theorem call_reprD (hg : X.A.guards = some []) (hu : X.A.units + 64 < cLine) : CallR X (.builtin "repr") (rReprD X.K) := by
  rintro pins s σ H xs us Q J r ⟨x, d, rfl, hd, hs, hnd, hdp, hl, ⟨p, rfl⟩, q⟩
  obtain ⟨v1, rfl, rx⟩ := vals1 r
  cases rx
  obtain ⟨as, rd⟩ := Dp.reads J d _ _ hd rfl
  exact repr_of_reads' rd hs (PyData.noDict_hsm hnd) hg (by omega) (fun _ _ e => e) (fun h' u tk hk => ⟨.str d.shown, H, J.kept (t' := tk) hk, ⟨u, rfl⟩, q⟩) hl
theorem de_repr {p : Pos} {r : List Nat} (hgd : X.A.guards = some []) (hu : X.A.units + 64 < cLine) (hm : X.mg "repr" = none) (ha : DE X a S u S1) (hv : View S1.m u d) (md : mild r d = true) (hq : isSeqD d = true := by rfl) (hlr : r.length ≤ 60 := by decide) (hw : 15 * wB r + 13 ≤ 16777216 := by decide) (hg : Gl X "repr" := by rfl)
    (he : starEach [a] X.env = (false, eval a X.env) :: starEach [] X.env := by rfl) : DE X (.Call (.Name "repr" p) [a] [] pos) S (.dat (.str (reprD d))) S1 :=
  de_callB (call_reprD hgd hu) hm PyProof.Rows.boot_repr (da_cons ha da_nil he) (fun F G α σ H vs Q R hvs k => by
    obtain ⟨v, r', rfl, h1, h2⟩ := hvs
    have e : r' = [] := h2
    subst e
    have hd := hv.real R h1
    obtain ⟨m1, m2, m3, m4⟩ := mild.ok r d md
    have lay := good.lay _ _ m1
    refine ⟨v, toPy d, rfl, good.dp _ d v m1 hd, m4, PyData.hasDict_of_canLay _ lay.1, Nat.le_trans lay.2 hlr, mild.short md hw, ?_, k _ G α H .refl .refl R (.str _)⟩
    cases d with
    | lst ds => obtain ⟨p, vs, rfl, _⟩ := of_lst hd; exact ⟨p, rfl⟩
    | tup ds => obtain ⟨p, vs, rfl, _⟩ := of_tup hd; exact ⟨p, rfl⟩
    | _ => cases hq) hg (by decide) (by decide) he
end
end DL
/-! DO: sums, chains, targets, what is known at an expression's end. -/
namespace DL
open PySem PySem.Spec PyProof.Rows L2
section
variable {X : Cx} {a b c e : Expr} {S S1 S2 S3 S' : DSt} {u w z : U} {d d' : D} {ds es : List D} {pos pos2 : Pos}
/-! ### sum(xs, start) of lists -/
def rSumL : List V → Hp → VK → Prop := fun xs H Q => ∃ (l st : Addr) (vs c0 : List V) (Ls : List (List V)), xs = [.ref l, .ref st] ∧ H l = some (.lst vs) ∧ H st = some (.lst c0) ∧ c0.length ≤ 1000 ∧ 0 < Ls.length ∧ (Ls.map List.length).sum ≤ 100000 ∧
  Paired (fun x L => ∃ t, x = V.ref t ∧ H t = some (.lst L)) vs Ls ∧ ∀ p, H p = none → Q (.ref p) (upd H p (.lst (c0 ++ Ls.flatten)))
theorem parts_raw {pins : List (Addr × Obj)} {σ : L2.St} {H : Hp} {s : Shared} (J : L2.Inv X pins σ H s) : ∀ {vs : List V} {Ls : List (List V)} {us : List Value}, Vals vs us → Paired (fun x L => ∃ t, x = V.ref t ∧ H t = some (.lst L)) vs Ls →
    ∃ Us : List (List Value), Us.length = Ls.length ∧ us.length = Ls.length ∧ (Us.map List.length) = (Ls.map List.length) ∧ Vals Ls.flatten Us.flatten ∧ ∀ (j : Nat) (L : List Value), Us[j]? = some L → ∃ t, us[j]? = some (.ref t) ∧ LstAt s.heap t L
  | [], [], _, r, .nil => by
    cases r
    exact ⟨[], rfl, rfl, rfl, .nil, fun j L e => by simp at e⟩
  | v :: vs, L :: Ls, _, r, .cons h t => by
    cases r with
    | @cons _ u _ us r1 r2 =>
      obtain ⟨Us, e1, e2, e3, e4, e5⟩ := parts_raw J r2 t
      obtain ⟨t0, rfl, h1⟩ := h
      cases r1
      obtain ⟨zt, its, n, rl, el, e⟩ := J.lstM h1
      refine ⟨its :: Us, by rw [List.length_cons, List.length_cons, e1], by rw [List.length_cons, List.length_cons, e2], by rw [List.map_cons, List.map_cons, e3, el], ?_, fun j L' ej => ?_⟩
      · rw [List.flatten_cons, List.flatten_cons]
        exact rl.append e4
      · cases j with
        | zero =>
          have ej : its = L' := by simpa using ej
          subst ej
          exact ⟨t0, rfl, n, e⟩
        | succ j =>
          obtain ⟨t1, f1, f2⟩ := e5 j L' (by simpa using ej)
          exact ⟨t1, by simpa using f1, f2⟩
theorem call_sumL (hc : X.calm = true) : CallR X (.builtin "sum") rSumL := by
  rintro pins s σ H xs us Q J r ⟨l, st, vs, c0, Ls, rfl, hl, hst, h0, h1, h2, hp, q⟩
  obtain ⟨w1, w2, rfl, r1, r2⟩ := vals2 r
  cases r1
  cases r2
  obtain ⟨zl, its, n, rl, el, e⟩ := J.lstM hl
  obtain ⟨zs, its2, n2, rs, es, e2⟩ := J.lstM hst
  obtain ⟨Us, p1, p2, p3, p4, p5⟩ := parts_raw J rl hp
  refine sum_lists (Ls := Us) (c0 := its2) (J.ok.hd hc) ⟨_, e, rfl, n, rfl⟩ (by rw [List.size_toArray, p1, p2]) (by omega) ⟨n2, e2⟩ (by omega) (by rw [p3]; exact h2) (fun j L hj => ?_) fun h' t' kp ⟨c', ht⟩ hf => ?_
  · obtain ⟨t, f1, f2⟩ := p5 j L hj
    exact ⟨t, by simpa using f1, f2⟩
  · refine ⟨.ref t', _, J.laid (a := t') (o := .lst (c0 ++ Ls.flatten)) (t' := s.toks) kp hf ⟨?_, its2 ++ Us.flatten, c', rs.append p4, ht⟩, rfl, q _ (J.hok.fresh hf)⟩
    rw [List.length_append, List.length_flatten, sizeLine_eq]
    omega
theorem de_sumL {p : Pos} {Ls : List (List D)} (hc : X.calm = true) (hm : X.mg "sum" = none) (ha : DE X a S u S1) (hb : DE X b S1 w S2) (l : LU S2.m u (Ls.map .lst)) (l2 : LU S2.m w ds) (h0 : ds.length ≤ 1000) (h1 : 0 < Ls.length) (h2 : (Ls.map List.length).sum ≤ 100000) (hz : Made S2 (.lst (ds ++ Ls.flatten)) z S3) (hg : Gl X "sum" := by rfl)
    (he : starEach [a, b] X.env = (false, eval a X.env) :: starEach [b] X.env := by rfl) (he2 : starEach [b] X.env = (false, eval b X.env) :: starEach [] X.env := by rfl) (hpl : (backTo pos (starEach [b] X.env)).any (·.1) = false := by rfl) :
    DE X (.Call (.Name "sum" p) [a, b] [] pos) S z S3 :=
  de_callB (call_sumL hc) hm PyProof.Rows.boot_sum (da_cons ha (da_cons hb da_nil he2) he) (fun F G α σ H vs Q R hv k => by
    obtain ⟨v, r, rfl, h3, v2, r2, rfl, h4, h5⟩ := hv
    have e : r2 = [] := h5
    subst e
    obtain ⟨q1, ws, rfl, x1, x2⟩ := l.real R h3
    obtain ⟨q2, ws2, rfl, y1, y2⟩ := l2.real R h4
    have parts : ∀ {Ls : List (List D)} {ws : List V}, Dats X.K G (Ls.map .lst) ws → ∃ Vs : List (List V), Vs.map List.length = Ls.map List.length ∧ Dats X.K G Ls.flatten Vs.flatten ∧ Paired (fun x L => ∃ t, x = V.ref t ∧ H t = some (.lst L)) ws Vs := by
      intro Ls
      induction Ls with
      | nil =>
        intro ws h
        rw [of_dats0 h]
        exact ⟨[], rfl, .nil, .nil⟩
      | cons L Ls ih =>
        intro ws h
        obtain ⟨x, r, rfl, d1, d2⟩ := of_dats h
        obtain ⟨Vs, f1, f2, f3⟩ := ih d2
        obtain ⟨t, vs, rfl, g1, g2⟩ := of_lst d1
        refine ⟨vs :: Vs, by rw [List.map_cons, List.map_cons, f1, g2.len], ?_, .cons ⟨t, rfl, R.fG _ _ g1⟩ f3⟩
        rw [List.flatten_cons, List.flatten_cons]
        exact g2.app f2
    obtain ⟨Vs, f1, f2, f3⟩ := parts x2
    have fl : Vs.length = Ls.length := by rw [← List.length_map (f := List.length), f1, List.length_map]
    refine ⟨q1, q2, ws, ws2, Vs, rfl, x1, y1, by rw [y2.len]; exact h0, by rw [fl]; exact h1, by rw [f1]; exact h2, f3, fun p hp => ?_⟩
    obtain ⟨G4, α4, g4, a4, R4, u4⟩ := R.made hp (mo := .lst (ds ++ Ls.flatten)) ⟨_, rfl, y2.app f2⟩ hz
    exact k _ G4 α4 _ g4 a4 R4 u4) hg (by decide) (by decide) he hpl
/-! ### a chain of two comparisons of ints -/
theorem de_chainLe {i j k : Int} (ha : DE X a S (.dat (.int i)) S1) (hb : DE X b S1 (.dat (.int j)) S2) (hc : DE X c S2 (.dat (.int k)) S2) (hm : lastMarks [.LtE, .LtE] [b, c] = false := by with_unfolding_all rfl) :
    DE X (.Compare a [.LtE, .LtE] [b, c] pos) S (.dat (.bl (decide (i ≤ j) && decide (j ≤ k)))) S2 :=
  PE.wk (pe_chain op_le op_le ha hb hc hm) fun σ H Q ⟨F, G, α, R, q⟩ => ⟨F, G, α, R, fun v G1 α1 H1 g1 a1 R1 uv => ⟨F, G1, α1, R1, fun y G2 α2 H2 g2 a2 R2 uy => by
    refine ⟨i, j, of_int (Dat.mono g2.1 _ _ uv), of_int uy, decide (i ≤ j), rfl, ?_⟩
    by_cases h : i ≤ j
    · rw [decide_eq_true h]
      simp only [if_true]
      refine ⟨F, G2, α2, R2, fun z G3 α3 H3 g3 a3 R3 uz => ⟨j, k, of_int (Dat.mono g3.1 _ _ uy), of_int uz, q _ G3 α3 H3 (g1.trans (g2.trans g3)) (a1.trans (a2.trans a3)) R3 ?_⟩⟩
      rw [decide_eq_true h]
      exact .bl _
    · rw [decide_eq_false h]
      simp only [Bool.false_eq_true, if_false]
      refine q _ G2 α2 H2 (g1.trans g2) (a1.trans a2) R2 ?_
      rw [decide_eq_false h]
      exact .bl _⟩⟩
/-! ### membership in tuples -/
def rNotInT (K : PySem.W.Frag) : R2 := fun x y H Q => ∃ d ds, Dp K H x d ∧ Dp K H y (.tuple ds) ∧ SeqAt.shaped d = true ∧ SeqAt.shaped (.tuple ds) = true ∧ Q (.bl (!ds.any fun z => PyData.eqv z d)) H
theorem op_notInT (hu : X.A.units + 65 < cLine) : OpR X (compareOp .NotIn) (rNotInT X.K) := by
  rintro pins s σ H x y v u Q J rx ry ⟨d, ds, hd, he, sd, se, q⟩
  obtain ⟨as, r1⟩ := Dp.reads J d x v hd rx
  obtain ⟨bs, r2⟩ := Dp.reads J (.tuple ds) y u he ry
  exact SeqAt.notIn_tuple_reads r2 r1 (SeqAt.canLay_of_shaped se) (SeqAt.canLay_of_shaped sd) (room_in_shaped sd hu) ⟨.bl _, H, J, rfl, q⟩
theorem opd_notInT {K : PySem.W.Frag} (h1 : View S.m u d) (h2 : View S.m w (.tup ds)) (g1 : good 60 d = true) (g2 : good 60 (.tup ds) = true) : OpD K (rNotInT K) S u w (.dat (.bl (!ds.any fun z => eqD z d))) S := by
  intro F G α σ H v y Q R hu hw k
  have hy := good.dp 60 (.tup ds) y g2 (h2.real R hw)
  have sy := good.shaped g2
  simp only [toPy] at hy sy
  refine ⟨_, _, good.dp 60 d v g1 (h1.real R hu), hy, good.shaped g1, sy, k _ G α H .refl .refl R ?_⟩
  rw [toPys_map, List.any_map]
  exact .bl _
end
/-! ### x[::-1] of tuples -/
section
variable {X : Cx} {a : Expr} {S S1 : DSt} {ds : List D} {pos : Pos}
def tRevT (K : PySem.W.Frag) (te : TE) : TE := fun σ H Q => te σ H fun x H1 => ∃ a xs, x = .ref a ∧ SqT K H1 a xs ∧ ∀ p, H1 p = none → Q (.ref p) (upd H1 p (.tup xs.reverse))
end
/-! ### what is known at an expression's end -/
section
variable {K : PySem.W.Frag} {S S1 : DSt} {n : Nat}
theorem ax_drop {α α' : Nat → Addr} (a : AX S S1 α α') (hn : ¬ Live S.m n) : AX S (drp S1 n) α α' := ⟨a.1, fun k l => by
  obtain ⟨e, mo, h⟩ := a.2 k l
  have hk : n ≠ k := fun z => hn (by rw [z]; exact l)
  exact ⟨e, mo, by show (S1.m.set n none)[k]? = _; rw [List.getElem?_set_ne hk]; exact h⟩⟩
theorem not_live {m : List (Option MO)} (h : m[n]? = some none ∨ m[n]? = none) : ¬ Live m n := fun ⟨mo, e⟩ => by
  rcases h with h | h <;> (rw [h] at e; cases e)
/-- a list or dict of one's own that was made on the way is let go -/
theorem de_drop {X : Cx} {e : Expr} {d : D} (n : Nat) (h : DE X e S (.dat d) S1) (h1 : noLsu n S1.m = true) (hn : S.m[n]? = some none ∨ S.m[n]? = none) : DE X e S (.dat d) (drp S1 n) :=
  PE.wk h fun σ H Q ⟨F, G, α, R, k⟩ => ⟨F, G, α, R, fun v G1 α1 H1 g1 a1 R1 uv => k v G1 α1 H1 g1 (ax_drop a1 (not_live hn)) (R1.dropped n h1) uv⟩
/-- a new list or dict is data from now on -/
theorem de_frz {X : Cx} {e : Expr} {d : D} (n : Nat) (h : DE X e S (.own n) S1) (ho : Own S1.m n d) (hn : S.m[n]? = some none ∨ S.m[n]? = none) : DE X e S (.dat d) (frz S1 n d) :=
  PE.wk h fun σ H Q ⟨F, G, α, R, k⟩ => ⟨F, G, α, R, fun v G1 α1 H1 g1 a1 R1 uv => by
    obtain ⟨G2, g2, R2, dd⟩ := R1.freeze n ho
    refine k v G2 α1 H1 (g1.trans g2) ⟨a1.1, fun j l => ?_⟩ R2 (by rw [uv.1]; exact dd)
    obtain ⟨e1, mo, e2⟩ := a1.2 j l
    have hj : n ≠ j := fun z => not_live hn (by rw [z]; exact l)
    refine ⟨e1, subM n d mo, ?_⟩
    show ((S1.m.set n none).map fun o => o.map (subM n d))[j]? = some (some (subM n d mo))
    rw [List.getElem?_map, List.getElem?_set_ne hj, e2]
    rfl⟩
end
end DL
/-! DT: x[::-1] of tuples; targets; lists of mixed things; texts put together. -/
namespace DL
open PySem PySem.Spec PyProof.Rows L2
theorem filterMap_same {α β : Type} {f g : α → Option β} : ∀ {l : List α}, (∀ x ∈ l, f x = g x) → l.filterMap f = l.filterMap g
  | [], _ => rfl
  | x :: l, h => by
    rw [List.filterMap_cons, List.filterMap_cons, h x List.mem_cons_self, filterMap_same fun y hy => h y (List.mem_cons_of_mem _ hy)]
section
variable {P : Program} {w : World} {A : Around} {E : Value → Shared → Prop} {s : Shared}
theorem rev_pick (xs : Array Value) : ((List.range xs.size).filterMap fun (k : Nat) => xs[(((xs.size : Int) - 1) + (k : Int) * (-1)).toNat]?) = xs.toList.reverse := by
  have e : (List.range xs.size).filterMap (fun (k : Nat) => xs[(((xs.size : Int) - 1) + (k : Int) * (-1)).toNat]?) = (List.range xs.size).filterMap (fun k => xs[xs.size - 1 - k]?) := by
    refine filterMap_same fun k hk => ?_
    have := List.mem_range.mp hk
    have e2 : (((xs.size : Int) - 1) + (k : Int) * (-1)).toNat = xs.size - 1 - k := by omega
    rw [e2]
  rw [e]
  have e3 : (fun k => xs[xs.size - 1 - k]?) = (fun i => xs[i]?) ∘ fun k => xs.size - 1 - k := rfl
  rw [e3, ← List.filterMap_map, PySem.W.krv_range, List.filterMap_reverse, PySem.W.krv_all]
theorem rev_tuple {t sl : Addr} {items : Array Value} {vk : Value} {Q : Value → Shared → Prop} (ht : IsTup s.heap t items) (hs : s.heap.IsSliceOf sl .none .none vk) (pk : IsPart vk (some (-1)))
    (h : Q (.ref s.heap.objs.size) { s with heap := s.heap.push { cls := .type "tuple", data := .seq items.toList.reverse.toArray } }) (hsz : items.size ≤ sizeLine) : wpAny (model P w) A (getItem (.ref t) (.ref sl)) Q E s := by
  have ok : sizeOk (.seq items.toList.reverse.toArray) := by
    show items.toList.reverse.toArray.size ≤ sizeLine
    rw [List.size_toArray, List.length_reverse, Array.length_toList]
    exact hsz
  obtain ⟨os, hos, hcs, hds⟩ := id hs
  have hTs : s.TypeIs (.ref sl) "slice" := ⟨os, hos, hcs⟩
  unfold getItem
  try with_reducible refine wpAny_holding ?_
  refine wpAny_bind (wpAny_sequenceKey ht.typeIs (by decide) ?_)
  refine wpAny_bind (wpAny_callSpecial?_slot (name := Str.ofString "__getitem__") ht.typeIs PyProof.Rows.slot_tuple_getitem (wpAny_call_entry PyProof.Rows.slot_tuple_getitem ht.typeIs entry_tuple_getitem ?_ (args_tuple_getitem _ _)))
  show wpAny _ _ (Builtin.Tuple.tupleItemsOf (.ref t) >>= _) _ _ s
  refine wpAny_bind (tupleItemsOf_ ht (wpAny_bind (wpAny_typeOf hTs ?_)))
  rw [if_pos (by decide)]
  unfold Builtin.Slice.sliceApplied Builtin.Slice.sliceFields
  refine wpAny_bind (wpAny_bind (wpAny_bind (wpAny_field hos hds (x := .none) rfl (wpAny_bind (wpAny_field hos hds (x := .none) rfl (wpAny_bind (wpAny_field hos hds (x := vk) rfl (wpAny_pure ?_))))))))
  refine wpAny_bind (HT.slicePart_ pk ?_)
  show wpAny _ _ (if ((-1 : Int) == 0) = true then _ else _) _ _ s
  rw [if_neg (by decide)]
  refine wpAny_bind (slicePart_none (wpAny_bind (slicePart_none (wpAny_bind (wpAny_pure ?_)))))
  have adj : Builtin.Slice.sliceAdjust none none (-1) (items.size : Int) = ((items.size : Int) - 1, -1) := by
    first | rfl | simp [Builtin.Slice.sliceAdjust]
  have pl : Builtin.Slice.slicePlaces ((items.size : Int) - 1) (-1) (-1) = items.size := by
    unfold Builtin.Slice.slicePlaces
    have h1 : ¬ ((-1 : Int) > 0) := by omega
    have e : (- -1 : Int) = 1 := by decide
    simp only [h1, if_false, e, Int.ediv_one]
    split <;> omega
  show wpAny _ _ (match Builtin.Slice.sliceAdjust none none (-1) (items.size : Int) with | (lo, hi) => pure (lo, (-1 : Int), Builtin.Slice.slicePlaces lo hi (-1))) _ _ s
  rw [adj]
  show wpAny _ _ (pure (((items.size : Int) - 1), (-1 : Int), Builtin.Slice.slicePlaces ((items.size : Int) - 1) (-1) (-1))) _ _ s
  rw [pl]
  refine wpAny_pure ?_
  show wpAny _ _ (if (((items.size : Int) - 1) == 0 && (-1 : Int) == 1 && items.size == items.size) = true then _ else _) _ _ s
  rw [if_neg (by simp), rev_pick]
  first
    | exact wpAny_bind (m := Builtin.Tuple.tupleExact _) (wpAny_newObj_type (wpAny_pure ⟨_, rfl, wpAny_pure h⟩) ok)
    | exact wpAny_bind (wpAny_bind (m := Builtin.Tuple.tupleExact _) (wpAny_newObj_type (wpAny_pure ⟨_, rfl, wpAny_pure h⟩) ok))
    | exact wpAny_bind (wpAny_bind (m := Builtin.Tuple.tupleExact _) (wpAny_newObj_type (wpAny_pure (wpAny_pure ⟨_, rfl, wpAny_pure h⟩)) ok))
end
section
variable {X : Cx} {a : Expr} {S S1 : DSt} {ds : List D} {pos : Pos}
theorem pe_revT {te : TE} {k : Nat} {p1 p2 p3 : Pos} (he : PE X a te) : PE X (.Subscript a (.Slice none none (some (.UnaryOp .USub (.Constant (.int 1) k p1) p2)) p3) pos) (tRevT X.K te) := by
  refine ⟨fun pins s σ H Q J h => ?_⟩
  refine Subscript_ (thn (he.run pins s σ H _ J h) fun v s1 ⟨x, H1, J1, r1, c, xs, ex, hx, q⟩ => ?_)
  subst ex
  cases r1
  have hst : PO X (some (.UnaryOp .USub (.Constant (.int 1) k p1) p2)) (tPart (tUn (rU fun i => .int (-i)) (tC (.int 1)))) := po_some (pe_un un_neg pe_int)
  refine wpAny_Slice (thn (po_none.run pins s1 σ H1 (fun o H2 => o = none ∧ H2 = H1) J1 ⟨rfl, rfl⟩) fun vl s2 ⟨l, H2, J2, pl, el, e2⟩ => ?_)
  subst el e2
  refine thn (po_none.run pins s2 σ H2 (fun o H3 => o = none ∧ H3 = H2) J2 ⟨rfl, rfl⟩) fun vu s3 ⟨u, H3, J3, pu, eu, e3⟩ => ?_
  subst eu e3
  refine thn (hst.run pins s3 σ H3 (fun o H4 => o = some (-1) ∧ H4 = H3) J3 ⟨1, rfl, -1, rfl, rfl, rfl⟩) fun vs s4 ⟨o, H4, J4, ps, eo, e4⟩ => ?_
  subst eo e4
  cases pl
  cases pu
  have J5 : L2.Inv X pins σ H4 { s4 with heap := s4.heap.push { cls := .type "slice", data := .fields #[.none, .none, vs] } } := J4.kept (t' := s4.toks) fun b ob q => Heap.get?_push_of_some _ q
  obtain ⟨its, r, ht, hz⟩ := J5.tuple hx
  have hlen := r.length
  show wpAny (model X.prog X.w) X.A (subscriptTail a (.Slice none none (some (.UnaryOp .USub (.Constant (.int 1) k p1) p2)) p3) (.ref c) (.ref s4.heap.objs.size)) (EP X pins σ Q) X.xe { s4 with heap := s4.heap.push { cls := .type "slice", data := .fields #[.none, .none, vs] } }
  refine tail_any (ops := [.ref c, .ref s4.heap.objs.size]) ht.typeIs PyProof.Rows.slot_tuple_getitem.lookup ?_ (by with_unfolding_all rfl)
  refine rev_tuple ht (Heap.IsSliceOf.new _ .none .none vs) ps ?_ (by rw [List.size_toArray]; omega)
  have nn := J5.hok.fresh (Nat.le_refl _)
  exact ⟨.ref _, _, J5.laid (t' := s4.toks) (o := .tup xs.reverse) (fun b ob q => Heap.get?_push_of_some _ q) (Nat.le_refl _) ⟨by rw [List.length_reverse]; exact hz, _, r.reverse, _, Heap.get?_push_size _ rfl, rfl, 0, rfl⟩, rfl, q _ nn⟩
theorem de_revT {k1 : Nat} {p1 p2 p3 : Pos} (ha : DE X a S (.dat (.tup ds)) S1) : DE X (.Subscript a (.Slice none none (some (.UnaryOp .USub (.Constant (.int 1) k1 p1) p2)) p3) pos) S (.dat (.tup ds.reverse)) S1 :=
  PE.wk (pe_revT ha) fun σ H Q ⟨F, G, α, R, k⟩ => ⟨F, G, α, R, fun v G1 α1 H1 g1 a1 R1 uv => by
    obtain ⟨p, vs, rfl, h1, h2⟩ := of_tup (show Dat X.K G1 (.tup ds) v from uv)
    refine ⟨p, vs, rfl, .of (R1.fG _ _ h1), fun p' hp => ?_⟩
    obtain ⟨G4, g4, R4, d4⟩ := R1.madeT hp h2.rev
    exact k _ G4 α1 _ (g1.trans g4) a1 R4 d4⟩
end
/-! ### assignments to several names -/
section
variable {X : Cx} {a b c e : Expr} {S S1 S2 : DSt} {u v w : U} {ds : List D} {pos : Pos} {i j l : Nat} {x y z : Str} {px py pz pt : Pos} {kt k2 : Nat} {pt2 : Pos}
theorem ds_par (hc : X.calm = true) (hN : X.N.Nodup) (ha : DAr X [a, b] S [u, v] S1) (hij : i ≠ j := by decide) (hi : X.N[i]? = some x := by rfl) (hj : X.N[j]? = some y := by rfl) (hx : X.env.scope.names.lookup x = some .local := by rfl) (hy : X.env.scope.names.lookup y = some .local := by rfl)
    (hw : swappedStores [.Tuple [.Name x px, .Name y py] kt pt] (.Tuple [a, b] k2 pt2) X.env = pure (some [x, y]) := by rfl) (hs : swapsWithSole [.Tuple [.Name x px, .Name y py] kt pt] (.Tuple [a, b] k2 pt2) pos.line X.env = pure false := by rfl) :
    DS X (.Assign [.Tuple [.Name x px, .Name y py] kt pt] (.Tuple [a, b] k2 pt2) pos) S (.nx (setG (setG S1 i u) j v)) :=
  PS.wk (ps_par hc hN hi hj hij hx hy ha hw hs) fun E σ H ⟨F, G, α, R, k⟩ => ⟨F, G, α, R, fun vs G1 α1 H1 g1 a1 R1 hv => by
    obtain ⟨v1, r1, rfl, h1, v2, r2, rfl, h2, h3⟩ := hv
    have e : r2 = [] := h3
    subst e
    exact ⟨v1, v2, rfl, k G1 α1 _ H1 g1 a1.1 ((R1.slot (i := i) h1).slot (i := j) h2)⟩⟩
theorem ds_par3 (hc : X.calm = true) (hN : X.N.Nodup) (ha : DAr X [a, b, c] S [u, v, w] S1) (hij : i ≠ j := by decide) (hil : i ≠ l := by decide) (hjl : j ≠ l := by decide) (hi : X.N[i]? = some x := by rfl) (hj : X.N[j]? = some y := by rfl) (hl : X.N[l]? = some z := by rfl)
    (hx : X.env.scope.names.lookup x = some .local := by rfl) (hy : X.env.scope.names.lookup y = some .local := by rfl) (hz : X.env.scope.names.lookup z = some .local := by rfl)
    (hw : swappedStores [.Tuple [.Name x px, .Name y py, .Name z pz] kt pt] (.Tuple [a, b, c] k2 pt2) X.env = pure (some [x, y, z]) := by rfl) (hs : swapsWithSole [.Tuple [.Name x px, .Name y py, .Name z pz] kt pt] (.Tuple [a, b, c] k2 pt2) pos.line X.env = pure false := by rfl) :
    DS X (.Assign [.Tuple [.Name x px, .Name y py, .Name z pz] kt pt] (.Tuple [a, b, c] k2 pt2) pos) S (.nx (setG (setG (setG S1 i u) j v) l w)) :=
  PS.wk (L2.ps_par3 hc hN hi hj hl hij hil hjl hx hy hz ha hw hs) fun E σ H ⟨F, G, α, R, k⟩ => ⟨F, G, α, R, fun vs G1 α1 H1 g1 a1 R1 hv => by
    obtain ⟨v1, r1, rfl, h1, v2, r2, rfl, h2, v3, r3, rfl, h3, h4⟩ := hv
    have e : r3 = [] := h4
    subst e
    exact ⟨v1, v2, v3, rfl, k G1 α1 _ H1 g1 a1.1 (((R1.slot (i := i) h1).slot (i := j) h2).slot (i := l) h3)⟩⟩
/-- names = a tuple -/
theorem ds_asgT {es : List Expr} {is : List Nat} (h : DE X e S (.dat (.tup ds)) S1) (hT : TgOk X (.Tuple es kt pt) (.tup is)) (hl : ds.length = is.length := by rfl) (hs : swapsWithSole [.Tuple es kt pt] e pos.line X.env = pure false := by rfl) (hw : swappedStores [.Tuple es kt pt] e X.env = pure none := by rfl)
    (h1 : (assignEach [.Tuple es kt pt] X.env).map (·.2) = [assign (.Tuple es kt pt) X.env] := by rfl) : DS X (.Assign [.Tuple es kt pt] e pos) S (.nx (setGs S1 is ds)) :=
  PS.wk (ps_asg h hT hs hw h1) fun E σ H ⟨F, G, α, R, k⟩ => ⟨F, G, α, R, fun v G1 α1 H1 g1 a1 R1 uv => by
    refine Tgt.ok (T := .tup is) R1 uv (show asg (.tup is) (.tup ds) S1 = some (setGs S1 is ds) from ?_) fun σ' R' _ => k G1 α1 σ' H1 g1 a1.1 R'
    simp only [asg]
    rw [if_pos hl]⟩
/-- names = a list -/
theorem ds_asgL {es : List Expr} {is : List Nat} (hc : X.calm = true) (h : DE X e S (.dat (.lst ds)) S1) (hT : PGs X es (gNames is)) (hl : ds.length = is.length := by rfl) (hn : (assignEach es X.env).length = is.length := by rfl) (hst : (assignEach es X.env).findIdx? (·.1) = none := by rfl)
    (hs : swapsWithSole [.Tuple es kt pt] e pos.line X.env = pure false := by rfl) (hw : swappedStores [.Tuple es kt pt] e X.env = pure none := by rfl)
    (h1 : (assignEach [.Tuple es kt pt] X.env).map (·.2) = [assign (.Tuple es kt pt) X.env] := by rfl) : DS X (.Assign [.Tuple es kt pt] e pos) S (.nx (setGs S1 is ds)) :=
  PS.wk (ps_asg h (pg_unl hc hT hn hst) hs hw h1) fun E σ H ⟨F, G, α, R, k⟩ => ⟨F, G, α, R, fun v G1 α1 H1 g1 a1 R1 uv => by
    obtain ⟨p, vs, rfl, h2, h3⟩ := of_lst (show Dat X.K G1 (.lst ds) v from uv)
    have hl2 : vs.length = is.length := by rw [h3.len]; exact hl
    exact ⟨p, vs, rfl, .of (R1.fG _ _ h2), hl2, gNames_ok hl2 (k G1 α1 _ H1 g1 a1.1 (Rl.slots h3 R1))⟩⟩
/-- own[k] = e -/
theorem ds_put {o ix : Expr} {n m : Nat} {k : Int} {d : D} {po : Pos} (he : DE X e S (.dat d) S1) (ho : DE X o S1 (.own n) S2) (hi : DE X ix S2 (.dat (.int k)) S2) (q : S2.m[n]? = some (some (.lst ds))) (hk : ixN ds.length k = some m) (hs : swapsWithSole [.Subscript o ix po] e pos.line X.env = pure false := by rfl)
    (hw : swappedStores [.Subscript o ix po] e X.env = pure none := by rfl) (h1 : (assignEach [.Subscript o ix po] X.env).map (·.2) = [assign (.Subscript o ix po) X.env] := by rfl)
    (ha : ∀ v, assign (.Subscript o ix po) X.env v = (do
      let ov ← holding [v] (eval o X.env)
      let iv ← holding [v, ov] (eval ix X.env)
      standAt po
      holding [v, ov, iv] (setItem ov iv v)
      release [v, ov, iv] []) := by intro _; rfl) : DS X (.Assign [.Subscript o ix po] e pos) S (.nx (setM S2 n (.lst (ds.set m d)))) :=
  PS.wk (ps_asg he (pg_sub ho hi set_list ha) hs hw h1) fun E σ H ⟨F, G, α, R, q0⟩ => ⟨F, G, α, R, fun v G1 α1 H1 g1 a1 R1 uv => ⟨F, G1, α1, R1, fun o' G2 α2 H2 g2 a2 R2 uo => ⟨F, G2, α2, R2, fun i' G3 α3 H3 g3 a3 R3 ui => by
    obtain ⟨ws, h3, h4⟩ := ownL R3 q
    have uo' := uo.on g3.1 a3.2
    obtain ⟨ax, R4⟩ := R3.write (n := n) (mo := .lst (ds.set m d)) (o := .lst (ws.set m v)) uo'.2 ⟨_, rfl, h4.set m (Dat.mono (g2.1.trans g3.1) _ _ uv)⟩
    exact ⟨α3 n, ws, k, m, uo'.1, of_int ui, h3, by rw [h4.len]; exact hk, q0 G3 α3 σ _ (g1.trans (g2.trans g3)) (a3.1.trans (a2.1.trans a1.1)) R4⟩⟩⟩⟩
/-- own[k], name = a pair -/
theorem ds_putName {o ix : Expr} {n m : Nat} {k : Int} {d d2 : D} {po : Pos} (hc : X.calm = true) (he : DE X e S (.dat (.tup [d, d2])) S1) (ho : DE X o S1 (.own n) S1) (hi2 : DE X ix S1 (.dat (.int k)) S1) (q : S1.m[n]? = some (some (.lst ds))) (hk : ixN ds.length k = some m) (hN : X.N.Nodup) (hi : X.N[i]? = some x := by rfl) (hx : Loc X.env.scope x := by first | exact Or.inl rfl | exact Or.inr rfl)
    (hf : X.fn x = true ∨ X.env.scope.names.lookup x = some .local := by first | exact .inl rfl | exact .inr rfl)
    (hs : swapsWithSole [.Tuple [.Subscript o ix po, .Name x px] kt pt] e pos.line X.env = pure false := by rfl) (hw : swappedStores [.Tuple [.Subscript o ix po, .Name x px] kt pt] e X.env = pure none := by rfl)
    (h1 : (assignEach [.Tuple [.Subscript o ix po, .Name x px] kt pt] X.env).map (·.2) = [assign (.Tuple [.Subscript o ix po, .Name x px] kt pt) X.env] := by rfl)
    (hn : (assignEach [.Subscript o ix po, .Name x px] X.env).length = 2 := by rfl) (hst : (assignEach [.Subscript o ix po, .Name x px] X.env).findIdx? (·.1) = none := by rfl)
    (e1 : (assignEach [.Subscript o ix po, .Name x px] X.env).map (·.2) = assign (.Subscript o ix po) X.env :: (assignEach [.Name x px] X.env).map (·.2) := by rfl)
    (e2 : (assignEach [.Name x px] X.env).map (·.2) = assign (.Name x px) X.env :: (assignEach [] X.env).map (·.2) := by rfl)
    (ha : ∀ v, assign (.Subscript o ix po) X.env v = (do
      let ov ← holding [v] (eval o X.env)
      let iv ← holding [v, ov] (eval ix X.env)
      standAt po
      holding [v, ov, iv] (setItem ov iv v)
      release [v, ov, iv] []) := by intro _; rfl) : DS X (.Assign [.Tuple [.Subscript o ix po, .Name x px] kt pt] e pos) S (.nx (setG (setM S1 n (.lst (ds.set m d))) i (.dat d2))) :=
  PS.wk (ps_asg he (pg_tup hc (pgs_cons (pg_sub ho hi2 set_list ha) (pgs_cons (pg_name hN hi hx hf) pgs_nil e2) e1) hn hst) hs hw h1) fun E σ H ⟨F, G, α, R, q0⟩ => ⟨F, G, α, R, fun v G1 α1 H1 g1 a1 R1 uv => by
    obtain ⟨p, vs, rfl, h2, h3⟩ := of_tup (show Dat X.K G1 (.tup [d, d2]) v from uv)
    obtain ⟨v1, r1, rfl, d1, h4⟩ := of_dats h3
    obtain ⟨v2, r2, rfl, dd2, h5⟩ := of_dats h4
    have e := of_dats0 h5
    subst e
    refine ⟨p, [v1, v2], rfl, .of (R1.fG _ _ h2), rfl, v1, [v2], rfl, F, G1, α1, R1, fun o' G2 α2 H2 g2 a2 R2 uo => ⟨F, G2, α2, R2, fun i' G3 α3 H3 g3 a3 R3 ui => ?_⟩⟩
    obtain ⟨ws, h6, h7⟩ := ownL R3 q
    have uo' := uo.on g3.1 a3.2
    have g13 := g2.1.trans g3.1
    obtain ⟨ax, R4⟩ := R3.write (n := n) (mo := .lst (ds.set m d)) (o := .lst (ws.set m v1)) uo'.2 ⟨_, rfl, h7.set m (Dat.mono g13 _ _ d1)⟩
    exact ⟨α3 n, ws, k, m, uo'.1, of_int ui, h6, by rw [h7.len]; exact hk, v2, [], rfl, rfl, q0 G3 α3 _ _ (g1.trans (g2.trans g3)) (a3.1.trans (a2.1.trans a1.1)) (R4.slot (i := i) (u := .dat d2) (Dat.mono g13 _ _ dd2))⟩⟩
end
/-! ### lists of mixed things -/
section
variable {X : Cx} {S : DSt} {n m : Nat} {us : List U} {u z : U}
theorem UVs.get {K : PySem.W.Frag} {G : Hp} {α : Nat → Addr} {m : List (Option MO)} : ∀ {us : List U} {vs : List V} {i : Nat} {u : U}, UVs K G α m us vs → us[i]? = some u → ∃ v, vs[i]? = some v ∧ UV K G α m u v
  | [], _, _, _, _, e => by simp at e
  | x :: us, _, 0, y, ⟨v, r, e0, h1, h2⟩, e => by
    have e : x = y := by simpa using e
    subst e
    exact ⟨v, by rw [e0]; rfl, h1⟩
  | x :: us, _, i + 1, _, ⟨v, r, e0, h1, h2⟩, e => by
    obtain ⟨w, f1, f2⟩ := h2.get (i := i) (by simpa using e)
    exact ⟨w, by rw [e0]; simpa using f1, f2⟩
theorem opd_ixU {K : PySem.W.Frag} {i : Int} (q : S.m[n]? = some (some (.lsu us))) (h0 : 0 ≤ i) (e : us[i.toNat]? = some z) : OpD K (rIx K) S (.own n) (.dat (.int i)) z S := by
  intro F G α σ H v y Q R hu hw k
  obtain ⟨_, _, o, h3, vs, rfl, h4⟩ := R.mu _ _ q
  obtain ⟨w, f1, f2⟩ := h4.get e
  exact .inl ⟨_, vs, i, w, hu.1, of_int hw, .of h3, atI_nn h0 f1, k w G α H .refl .refl R f2⟩
end
/-! ### f-strings -/
section
variable {X : Cx} {a e : Expr} {S S1 S2 S3 : DSt} {d : D} {pos : Pos}
theorem de_fmtI {i : Int} (h : DE X e S (.dat (.int i)) S1) (hi : i.natAbs ≤ 1000) : DE X (.FormattedValue e (-1) none pos) S (.dat (.str (toString i))) S1 :=
  PE.wk (pe_fmt h) fun σ H Q ⟨F, G, α, R, k⟩ => ⟨F, G, α, R, fun v G1 α1 H1 g1 a1 R1 uv => .inr ⟨i, of_int uv, by have := log1000 hi; omega, k _ G1 α1 H1 g1 a1 R1 (.str _)⟩⟩
/-- {x!r} of data -/
theorem de_fmtR {r : List Nat} {u : U} (hgd : X.A.guards = some []) (hu : X.A.units + 64 < cLine) (h : DE X e S u S1) (hv : View S1.m u d) (md : mild r d = true) (hq : isSeqD d = true := by rfl) (hlr : r.length ≤ 60 := by decide) (hw : 15 * wB r + 13 ≤ 16777216 := by decide) : DE X (.FormattedValue e 114 none pos) S (.dat (.str (reprD d))) S1 := by
  refine ⟨fun pins s σ H Q J ⟨F, G, α, R, k⟩ => ?_⟩
  refine wpAny_FormattedValue_repr (thn (h.run pins s σ H _ J ⟨F, G, α, R, fun v G1 α1 H1 g1 a1 R1 uv => (show ∃ G1 α1, GX F G G1 ∧ AX S S1 α α1 ∧ Rl X.K F G1 α1 S1 σ H1 ∧ UV X.K G1 α1 S1.m u v from ⟨G1, α1, g1, a1, R1, uv⟩)⟩) fun w s1 ⟨x, H1, J1, rx, G1, α1, g1, a1, R1, uv⟩ => ?_)
  have hd := hv.real R1 uv
  obtain ⟨m1, m2, m3, m4⟩ := mild.ok r d md
  have lay := good.lay _ _ m1
  obtain ⟨as, rd⟩ := Dp.reads J1 (toPy d) x w (good.dp _ d x m1 hd) rx
  have ref : ∃ p, x = .ref p := by
    cases d with
    | lst ds => obtain ⟨p, vs, rfl, _⟩ := of_lst hd; exact ⟨p, rfl⟩
    | tup ds => obtain ⟨p, vs, rfl, _⟩ := of_tup hd; exact ⟨p, rfl⟩
    | _ => cases hq
  obtain ⟨p, rfl⟩ := ref
  cases rx
  refine pyReprObj_of_reads rd m4 (PyData.noDict_hsm (PyData.hasDict_of_canLay _ lay.1)) hgd (by have := lay.2; omega) (fun _ _ e => e) (fun h' u tk hk => ?_) (mild.short md hw)
  have J2 : L2.Inv X pins σ H1 { s1 with heap := h', toks := tk } := J1.kept (t' := tk) hk
  exact wpAny_formatField_str ⟨.str (reprD d), H1, J2, ⟨_, rfl⟩, k _ G1 α1 H1 g1 a1 R1 (.str _)⟩ ⟨.str (reprD d), H1, J2.tok _, ⟨_, rfl⟩, k _ G1 α1 H1 g1 a1 R1 (.str _)⟩ (mild.short md hw)
end
end DL
/-! DU: instances of a class over data. -/
namespace DL
open PySem PySem.Spec PyProof.Rows L2
theorem in1_guards (A : Around) : A.in1.guards = A.guards := rfl
theorem make_guards {A : Around} {C : Addr} {us : List Value} {kw : List (Str × Value)} : (A.under (.builtin "type.__call__" ⟨.ref C :: us, kw⟩)).guards = A.guards := by
  first | rfl | simp [Around.under, Code.weight, Code.isCreation, Code.isGuard, Code.isCaller, Code.frames, Code.isFrame, guardIds]
theorem RoomG.in1 {k : Nat} {A : Around} (r : RoomG (k + 1) A) : RoomG k A.in1 := ⟨r.rm.in1, (in1_guards A).trans r.gd⟩
theorem RoomG.make {k : Nat} {A : Around} (r : RoomG (k + 1) A) (C : Addr) (us : List Value) (kw : List (Str × Value)) : RoomG k (A.under (.builtin "type.__call__" ⟨.ref C :: us, kw⟩)) := ⟨r.rm.make C us kw, make_guards.trans r.gd⟩
/-! ### __init__ -/
def SpI (K : PySem.W.Frag) (C : Addr) (ns : List Str) (R : List D → List D → Prop) : SpV := fun vs H Q => ∃ G x dx vs' ds fs, vs = .ref x :: vs' ∧ H x = some (.ins C dx []) ∧ G x = none ∧ Same G H ∧ Dats K G ds vs' ∧ R ds fs ∧
  ∀ G' H' ws dx', (∀ b o, b ≠ x → H b = some o → H' b = some o) → H' x = some (.ins C dx' (ns.zip ws)) → ns.length = ws.length → Dats K G' fs ws → GX (hid H x) G G' → Same G' H' → G' x = none → Q .non H'
def stI (N : List Str) (C : Addr) (ds : List D) (m : Nat) : DSt := ⟨some (.own 0) :: ds.map (fun d => some (U.dat d)) ++ List.replicate (N.length - (ds.length + 1)) none, some (.ins C [] []) :: List.replicate m none⟩
section
variable {P : Program} {w : World} {K : PySem.W.Frag} {mg : Str → Option Value} {base : Heap} {k : Nat} {f C : Addr} {fd : FuncData} {ps N ns : List Str} {x qual : Str} {st : Stmt}
theorem fng_init {R0 : List D → List D → Prop} (F : Fun K x qual st f fd) (S : FnScope N ps (defScope st)) (m : Nat) (hl : ∀ ds fs, R0 ds fs → ds.length + 1 = ps.length)
    (body : ∀ ds fs, R0 ds fs → ∀ (cdv : Value) (A : Around) (outer : List Env) (s : Shared) (H : Hp), RoomG k (A.deeper (envOfC qual (defScope st) s.heap.objs.size f cdv)) →
      ∃ S', DSs (BodyX P w K mg base N qual st f cdv A outer s H) (defBody st) (stI N C ds m) (.nx S') ∧ S'.m[0]? = some (some (.ins C ns fs))) :
    FnG P w K mg base (k + 1) f fd ps (SpI K C ns R0) := by
  refine fng_of F S (fun vs H Q h => ?_) fun cdv A outer s H vs Q hr hgd h => ?_
  · obtain ⟨G, o, dx, vs', ds, fs, rfl, _, _, _, hd, hR, _⟩ := h
    rw [List.length_cons, hd.len]
    exact hl ds fs hR
  · obtain ⟨G, o, dx, vs', ds, fs, rfl, ho, gn, sG, hd, hR, q⟩ := h
    obtain ⟨S', hb, hm0⟩ := body ds fs hR cdv A outer s H ⟨hr, hgd⟩
    have hlen : ds.length + 1 ≤ N.length := by rw [hl ds fs hR]; exact scope_le S
    have fo : hid H o o = none := hid_same
    have sF : Same (hid H o) H := fun b y e => by
      by_cases hb : b = o
      · rw [hb, fo] at e; cases e
      · rw [hid_ne hb] at e; exact e
    have R0' : Rl K (hid H o) G (fun _ => o) (stI N C ds m) (L2.start N (.ref o :: vs')) H := by
      refine ⟨sF, sG, ?_, fun i u hu => ?_, fun n mo hmo => ?_, fun n k l l' _ => ?_⟩
      · rw [start_len (by rw [List.length_cons, hd.len]; exact hlen)]
        show (some (U.own 0) :: ds.map (fun d => some (U.dat d)) ++ List.replicate (N.length - (ds.length + 1)) none).length = _
        rw [List.length_append, List.length_cons, List.length_map, List.length_replicate]
        omega
      · cases i with
        | zero =>
          have e : some (some (U.own 0)) = some (some u) := hu
          cases e
          exact ⟨.ref o, start_at rfl, rfl, _, rfl⟩
        | succ i =>
          have hu : (ds.map (fun d => some (U.dat d)) ++ List.replicate (N.length - (ds.length + 1)) none)[i]? = some (some u) := hu
          obtain ⟨d, e, rfl⟩ := maps_at hu
          obtain ⟨v, e1, e2⟩ := hd.get e
          exact ⟨v, start_at (i := i + 1) (by simpa using e1), e2⟩
      · cases n with
        | zero =>
          have e : some (some (MO.ins C [] [])) = some (some mo) := hmo
          cases e
          exact ⟨fo, gn, _, ho, dx, [], rfl, rfl, .nil⟩
        | succ n => exact (no_live (show (List.replicate m (none : Option MO))[n]? = some (some mo) from hmo)).elim
      · have z : ∀ j, Live (stI N C ds m).m j → j = 0 := fun j ⟨mo, e⟩ => by
          cases j with
          | zero => rfl
          | succ j => exact (no_live (show (List.replicate m (none : Option MO))[j]? = some (some mo) from e)).elim
        rw [z n l, z k l']
    refine ⟨_, hb, hid H o, G, fun _ => o, R0', ?_⟩
    intro G' α' σ' H' g e0 R'
    obtain ⟨f1, g1, oo, h3, dx', ws, rfl, h4, h5⟩ := R'.mu 0 _ hm0
    have e0 : α' 0 = o := e0
    rw [e0] at h3 g1
    exact q G' H' ws dx' (fun b y hb e => R'.fF b y (by rw [hid_ne hb]; exact e)) h3 h4 h5 g R'.fG g1
end
/-! ### C(..) -/
section
variable {X : Cx} {k : Nat} {x : Str} {C fI : Addr} {fd : FuncData} {ps ns : List Str} {p pos : Pos} {e : Expr} {es : List Expr} {S S1 : DSt} {us : List U} {ds fs : List D}
theorem de_make {R0 : List D → List D → Prop} (M : Mk X.K C fI) (Fi : FnG X.prog X.w X.K X.mg X.base k fI fd ps (SpI X.K C ns R0)) (hb : Binds X.K fd ps []) (hr : RoomG (k + 1) X.A) (hm : X.mg x = some (.ref C)) (ha : DAr X (e :: es) S us S1) (hR : R0 ds fs) (hu : AllD us ds := by repeat constructor) (hg : Gl X x := by rfl) (hdb : (x == ("__debug__" : Str)) = false := by decide)
    (he : starEach (e :: es) X.env = (false, eval e X.env) :: starEach es X.env := by rfl) (hpl : (backTo pos (starEach es X.env)).any (·.1) = false := by rfl) : DE X (.Call (.Name x p) (e :: es) [] pos) S (.dat (.ins C ns fs)) S1 := by
  refine ⟨fun pins s σ H Q J ⟨F, G, α, R, q⟩ => wpAny_Call_Name_kw (ld_glob J hg hm ?_ hdb)⟩
  refine PySem.W.callWith_K (h₀ := X.base) J.ok.mod.kin M.kp (thn (ha.run pos pins s σ H _ J ⟨F, G, α, R, fun vs G1 α1 H1 g1 a1 R1 uv => (show ∃ G1 α1, GX F G G1 ∧ AX S S1 α α1 ∧ Rl X.K F G1 α1 S1 σ H1 ∧ UVs X.K G1 α1 S1.m us vs from ⟨G1, α1, g1, a1, R1, uv⟩)⟩) fun ws s1 ⟨zs, H1, J1, rr, G1, α1, g1, a1, R1, uv⟩ => ⟨J1.kIn, ?_⟩) he hpl
  have nx := J1.hok.fresh (Nat.le_succ s1.heap.objs.size)
  have nd := J1.hok.fresh (Nat.le_refl s1.heap.objs.size)
  have ne : s1.heap.objs.size ≠ s1.heap.objs.size + 1 := Nat.ne_of_lt (Nat.lt_succ_self _)
  have J2 := Inv.made (C := C) J1
  have hd := hu.real uv
  -- the state with the dict and the instance laid
  have R2 := R1.extra (o := .own (s1.heap.objs.size + 1)) nd
  have nx2 : (upd H1 s1.heap.objs.size (.own (s1.heap.objs.size + 1))) (s1.heap.objs.size + 1) = none := by rw [upd_ne (Ne.symm ne)]; exact nx
  have R3 := R2.extra (o := .ins C s1.heap.objs.size []) nx2
  have gx : G1 (s1.heap.objs.size + 1) = none := R1.fG.free nx
  have fx : F (s1.heap.objs.size + 1) = none := R1.fF.free nx
  have sp : SpI X.K C ns R0 (V.ref (s1.heap.objs.size + 1) :: zs) (upd (upd H1 s1.heap.objs.size (.own (s1.heap.objs.size + 1))) (s1.heap.objs.size + 1) (.ins C s1.heap.objs.size [])) (fun v H2 => v = .non ∧ Q (.ref (s1.heap.objs.size + 1)) H2) := by
    refine ⟨G1, s1.heap.objs.size + 1, s1.heap.objs.size, zs, ds, fs, rfl, upd_same, gx, R3.fG, hd, hR, fun G' H' ws dx' s hw hl dw g sg go => ⟨rfl, ?_⟩⟩
    have gF : GX F G1 G' := g.less fun a hF e => by
      cases q : F a with
      | none => exact hF q
      | some y =>
        have ha : a ≠ s1.heap.objs.size + 1 := ne_of_none q fx
        rw [hid_ne ha, R3.fF a y q] at e
        cases e
    have R4 : Rl X.K F G' α1 S1 σ (hid H' (s1.heap.objs.size + 1)) := by
      refine ⟨fun b y q => ?_, fun b y q => ?_, R1.ln, fun i u hu => ?_, fun n mo hn => ?_, R1.inj⟩
      · have hb := ne_of_none q fx
        rw [hid_ne hb]
        exact s b y hb (R3.fF b y q)
      · have hb := ne_of_none q go
        rw [hid_ne hb]
        exact sg b y q
      · obtain ⟨v, e, uv⟩ := R1.sl i u hu
        exact ⟨v, e, uv.on g.1 fun n l => ⟨rfl, l⟩⟩
      · obtain ⟨h1, h2, o, h3, h4⟩ := R3.mu n mo hn
        have hx : α1 n ≠ s1.heap.objs.size + 1 := R1.apart nx n ⟨mo, hn⟩
        have h5 := s _ _ hx h3
        refine ⟨h1, ?_, o, by rw [hid_ne hx]; exact h5, h4.on g.1 fun n l => ⟨rfl, l⟩⟩
        cases q : G' (α1 n) with
        | none => rfl
        | some o' =>
          obtain ⟨xs, rfl⟩ := g.2 _ _ (by rw [hid_ne hx, h3]; exact fun z => nomatch z) h2 q
          have := sg _ _ q
          rw [h5] at this
          cases this
          cases mo with
          | lst ds => obtain ⟨vs, e, _⟩ := h4; cases e
          | dic t ks ds => cases t <;> (obtain ⟨kvs, e, _⟩ := h4; cases e)
          | lsu us => obtain ⟨vs, e, _⟩ := h4; cases e
          | ins C ns ds => obtain ⟨dx, vs, e, _⟩ := h4; cases e
    obtain ⟨g5, R5⟩ := R4.dat (o := .ins C dx' (ns.zip ws)) hid_same (R4.apart hid_same)
    rw [hid_upd hw] at R5
    exact q _ _ α1 H' (g1.trans (gF.trans g5)) a1 R5 (.ins upd_same hl (dw.mono g5.1))
  have r2 : Vals (V.ref (s1.heap.objs.size + 1) :: zs) (Value.ref (s1.heap.objs.size + 1) :: ws) := .cons rfl rr
  have hlen : (Value.ref (s1.heap.objs.size + 1) :: ws ++ []).length = ps.length := by
    rw [List.append_nil, ← r2.length]
    exact Fi.len _ _ _ sp
  refine wpAny_call (make_map (f := fI) J1.kIn M.makes M.init (beq_iff_eq.mp M.fn) (codeAny_mono (Fi.run _ X.stack _ _ ⟨Value.ref (s1.heap.objs.size + 1) :: ws, []⟩ (Value.ref (s1.heap.objs.size + 1) :: ws) _ _ (hr.make C ws []).rm (hr.make C ws []).gd
    (J2.env0.make C ws []) (by have := hb _ (Value.ref (s1.heap.objs.size + 1) :: ws) J2.kIn hlen; rw [List.append_nil] at this; exact this) r2 sp) fun r s' hq' => ?_))
  cases r with
  | error er => exact False.elim hq'
  | ok fl =>
    cases fl with
    | ret u =>
      obtain ⟨v, H', J3, rv, ev, q3⟩ := J2.after hq'
      subst ev
      exact ⟨rv, ⟨V.ref (s1.heap.objs.size + 1), H', J3, rfl, q3⟩⟩
    | next => exact False.elim hq'
    | brk => exact False.elim hq'
    | cont => exact False.elim hq'
end
/-! ### fields -/
theorem zip_lookup {K : PySem.W.Frag} {G : Hp} : ∀ {ns : List Str} {ds : List D} {vs : List V} {f : Str} {d : D}, Dats K G ds vs → (ns.zip ds).lookup f = some d → ∃ v, (ns.zip vs).lookup f = some v ∧ Dat K G d v
  | [], ds, vs, f, d, _, e => by simp at e
  | n :: ns, [], vs, f, d, _, e => by simp at e
  | n :: ns, d0 :: ds, _, f, d, h, e => by
    obtain ⟨v, r, rfl, h1, h2⟩ := of_dats h
    rw [List.zip_cons_cons, List.lookup_cons] at e ⊢
    cases q : f == n with
    | true =>
      rw [q] at e
      cases e
      exact ⟨v, rfl, h1⟩
    | false =>
      rw [q] at e
      exact zip_lookup h2 e
theorem zip_lookup_none {β γ : Type} : ∀ {ns : List Str} {ds : List β} {vs : List γ} {f : Str}, ns.length = vs.length → f ∉ ns → (ns.zip vs).lookup f = none
  | [], _, _, _, _, _ => by simp
  | n :: ns, ds, [], f, h, _ => by simp at h
  | n :: ns, ds, v :: vs, f, h, hn => by
    rw [List.zip_cons_cons, List.lookup_cons]
    rw [List.mem_cons, not_or] at hn
    have : (f == n) = false := by simpa using hn.1
    rw [this]
    exact zip_lookup_none (ds := ds) (Nat.succ.inj h) hn.2
section
variable {X : Cx} {k : Nat} {C g p : Addr} {fd : FuncData} {ps ns : List Str} {f m : Str} {pos apos : Pos} {o e : Expr} {es : List Expr} {S S1 S2 S3 : DSt} {u z : U} {us : List U} {ds fs : List D} {d : D} {r : Res}
theorem de_fld (h : DE X e S (.dat (.ins C ns fs)) S1) (c : Cls X.K C) (n : NoAttr X.K C f) (l : (ns.zip fs).lookup f = some d) (hb : attributeBase e f X.env (eval e X.env) = eval e X.env := by rfl) : DE X (.Attribute e f pos) S (.dat d) S1 :=
  PE.wk (pe_fld h hb) fun σ H Q ⟨F, G, α, R, q⟩ => ⟨F, G, α, R, fun v G1 α1 H1 g1 a1 R1 uv => by
    obtain ⟨a, dx, vs, rfl, h1, h2, h3⟩ := of_ins (show Dat X.K G1 (.ins C ns fs) v from uv)
    obtain ⟨y, l2, dy⟩ := zip_lookup h3 l
    exact ⟨a, C, dx, _, y, rfl, R1.fG _ _ h1, c, n, l2, q y G1 α1 H1 g1 a1 R1 dy⟩⟩
/-- a constant of a class, read off the class -/
theorem pe_gcls {x : Str} {np : Pos} (hg : Gl X x) (hm : X.mg x = some (.ref C)) (hd : (x == ("__debug__" : Str)) = false := by decide) : PE X (.Name x np) (fun _ H Q => Q (.ref C) H) := pe_glob hg hm (v := .ref C) rfl hd
theorem de_clsI {x : Str} {np : Pos} {i : Int} {mc w : Value} (hm : X.mg x = some (.ref C)) (r : ClX.CRead X.K C mc) (cv : ClX.CVal X.K C mc f (.int i) w) (hg : Gl X x := by rfl) (hb : attributeBase (.Name x np) f X.env (eval (.Name x np) X.env) = eval (.Name x np) X.env := by rfl) (hd : (x == ("__debug__" : Str)) = false := by decide) :
    DE X (.Attribute (.Name x np) f pos) S (.dat (.int i)) S :=
  PE.wk (ClX.pe_cval (pe_gcls hg hm hd) hb) fun σ H Q ⟨F, G, α, R, q⟩ => ⟨C, mc, _, w, rfl, r, cv, q _ G α H .refl .refl R (.int i)⟩
/-- isinstance(x, C) of an instance of C -/
def rIsC (K : PySem.W.Frag) : List V → Hp → VK → Prop := fun xs H Q => ∃ (x : V) (C : Addr) (t : Value) (b : Bool), xs = [x, .ref C] ∧ TyOf K H x t ∧ PySem.W.kitOne K t (.ref C) = some b ∧ Q (.bl b) H
theorem call_isC : CallR X (.builtin "isinstance") (rIsC X.K) := by
  rintro pins s σ H xs us Q J r ⟨x, C, t, b, rfl, ty, e, q⟩
  obtain ⟨u1, u2, rfl, r1, r2⟩ := vals2 r
  cases r2
  exact isinst_ok J r1 ty e fun tk => ⟨.bl b, H, J.tok tk, rfl, q⟩
/-- what a class must tell for isinstance of its instances -/
structure IsC (K : PySem.W.Frag) (C : Addr) : Prop where
  cl : Cls K C
  ha : PySem.W.findIn K (.ref C) "__class__" = some (some (.builtin "object.__class__"))
  hn : PySem.W.specialIn K (.builtin "object.__class__") "__get__" = some (some (.builtin "getset_descriptor.__get__"))
  htk : PySem.W.takesIn K (.builtin "object.__class__") = some true
  hm : PySem.W.mroIn K C (.type "object") = some true
  self : PySem.W.kitOne K (.ref C) (.ref C) = some true
theorem de_isC {x : Str} {np pn : Pos} (ic : IsC X.K C) (hm : X.mg "isinstance" = none) (hx : X.mg x = some (.ref C)) (ha : DE X e S (.dat (.ins C ns fs)) S1) (hg : Gl X "isinstance" := by rfl) (hgx : Gl X x := by rfl) (hd : (x == ("__debug__" : Str)) = false := by decide)
    (he : starEach [e, .Name x np] X.env = (false, eval e X.env) :: starEach [.Name x np] X.env := by rfl) (he2 : starEach [.Name x np] X.env = (false, eval (.Name x np) X.env) :: starEach [] X.env := by rfl) (hpl : (backTo pos (starEach [.Name x np] X.env)).any (·.1) = false := by rfl) :
    DE X (.Call (.Name "isinstance" pn) [e, .Name x np] [] pos) S (.dat (.bl true)) S1 :=
  PE.wk (pe_callB call_isC hg hm PyProof.Rows.boot_isinstance (pa_cons ha (pa_cons (pe_gcls hgx hx hd) pa_nil he2) he) (by decide) (by decide) he hpl) fun σ H Q ⟨F, G, α, R, q⟩ => ⟨F, G, α, R, fun v G1 α1 H1 g1 a1 R1 uv => by
    obtain ⟨a, dx, vs, rfl, h1, h2, h3⟩ := of_ins (show Dat X.K G1 (.ins C ns fs) v from uv)
    exact ⟨_, C, _, true, rfl, .ins (R1.fG _ _ h1) ic.cl ic.ha ic.hn ic.htk ic.hm, ic.self, q _ G1 α1 H1 g1 a1 R1 (.bl true)⟩⟩
/-! ### methods, properties -/
theorem fng_in {A : Around} {pins : List (Addr × Obj)} {σ : L2.St} {H : Hp} {s : Shared} {Q : VK} {us : List Value} {vs : List V} {E : Value → Shared → Prop} {sp : SpV} (F : FnG X.prog X.w X.K X.mg X.base k g fd ps sp) (hb : Binds X.K fd ps []) (hr : RoomG k A) (hf : A.frames = some X.stack)
    (J : L2.Inv X pins σ H s) (r : Vals vs us) (h : sp vs H Q) : wpAny (model X.prog X.w) A (call (.ref g) us) (EP X pins σ Q) E s := by
  have hl : (us ++ []).length = ps.length := by rw [List.append_nil, ← r.length]; exact F.len _ _ _ h
  have b := hb s us J.kIn hl
  rw [List.append_nil] at b
  exact fng_run (args := ⟨us, []⟩) F hr.rm hr.gd hf J b r h
theorem ins_look {pins : List (Addr × Obj)} {σ : L2.St} {H : Hp} {s : Shared} {a dx : Addr} {fl : List (Str × V)} (J : L2.Inv X pins σ H s) (ea : H a = some (.ins C dx fl)) : ∃ od, PySem.W.InstAt s.heap a (PySem.W.instObj C dx) C (some od) := by
  obtain ⟨mA, O, _⟩ := ins_get J.hok ea
  obtain ⟨od, I, _⟩ := O.look
  exact ⟨od, I⟩
/-- o.m(e, ..): a method that changes nothing that stood -/
theorem de_meth {R0 : List D → Res → Prop} {pl : Sem Bool} (ho : DE X o S (.dat (.ins C ns fs)) S1) (c : Cls X.K C) (hm : Meth X.K C m g) (Fm : FnG X.prog X.w X.K X.mg X.base k g fd ps (SpP X.K R0)) (hb : Binds X.K fd ps []) (hr : RoomG k X.A) (ha : DAr X (e :: es) S1 us S2) (hR : R0 (.ins C ns fs :: ds) r) (hz : MadeR S2 r z S3) (hns : m ∉ ns := by decide) (hu : AllD us ds := by repeat constructor)
    (hst : starEach (e :: es) X.env = (false, eval e X.env) :: starEach es X.env := by rfl) (hpl : (backTo pos (starEach es X.env)).any (·.1) = false := by rfl)
    (ht : eval (.Call (.Attribute o m apos) (e :: es) [] pos) X.env = (do
      let ov ← eval o X.env
      standAt apos.atName
      let (f, first) ← holding [ov] (getMethod ov m pl)
      callWith pos f first (backTo pos (starEach (e :: es) X.env)) (backToKw pos (keywordEach [] X.env))) := by rfl) : DE X (.Call (.Attribute o m apos) (e :: es) [] pos) S z S3 := by
  refine ⟨fun pins s σ H Q J ⟨F, G, α, R, q⟩ => ?_⟩
  refine PySem.W.methodCall_KW (pl := pl) (thn (ho.run pins s σ H _ J ⟨F, G, α, R, fun v G1 α1 H1 g1 a1 R1 uv => (show ∃ G1 α1, GX F G G1 ∧ AX S S1 α α1 ∧ Rl X.K F G1 α1 S1 σ H1 ∧ UV X.K G1 α1 S1.m _ v from ⟨G1, α1, g1, a1, R1, uv⟩)⟩) fun w s1 ⟨x, H1, J1, rx, G1, α1, g1, a1, R1, uv⟩ => ?_) ht
  obtain ⟨a, dx, vs, rfl, h1, h2, h3⟩ := of_ins (show Dat X.K G1 (.ins C ns fs) x from uv)
  cases rx
  refine getmeth_ok J1 (R1.fG _ _ h1) c hm (zip_lookup_none (ds := fs) h2 hns) ?_
  refine PySem.W.callWith_K (first := [.ref a]) (h₀ := X.base) J.ok.mod.kin hm.kp (thn (ha.run pos pins s1 σ H1 _ J1 ⟨F, G1, α1, R1, fun ws G2 α2 H2 g2 a2 R2 uws => (show ∃ G2 α2, GX F G1 G2 ∧ AX S1 S2 α1 α2 ∧ Rl X.K F G2 α2 S2 σ H2 ∧ UVs X.K G2 α2 S2.m us ws from ⟨G2, α2, g2, a2, R2, uws⟩)⟩) fun ws s2 ⟨zs, H2, J2, rr, G2, α2, g2, a2, R2, uws⟩ => ⟨J2.kIn, ?_⟩) hst hpl
  refine fng_in (vs := .ref a :: zs) Fm hb hr J2.ok.frames J2 (.cons rfl rr) ?_
  exact spP_run (ds := .ins C ns fs :: ds) R2 (.cons (Dat.mono g2.1 _ _ uv) (hu.real uws)) hR hz fun v G3 α3 H3 g3 a3 R3 u3 => q v G3 α3 H3 (g1.trans (g2.trans g3)) (a1.trans (a2.trans a3)) R3 u3
theorem de_meth0 {R0 : List D → Res → Prop} {pl : Sem Bool} (ho : DE X o S (.dat (.ins C ns fs)) S1) (c : Cls X.K C) (hm : Meth X.K C m g) (Fm : FnG X.prog X.w X.K X.mg X.base k g fd ps (SpP X.K R0)) (hb : Binds X.K fd ps []) (hr : RoomG k X.A) (hR : R0 [.ins C ns fs] r) (hz : MadeR S1 r z S2) (hns : m ∉ ns := by decide)
    (ht : eval (.Call (.Attribute o m apos) [] [] pos) X.env = (do
      let ov ← eval o X.env
      standAt apos.atName
      let (f, first) ← holding [ov] (getMethod ov m pl)
      callWith pos f first (backTo pos (starEach [] X.env)) (backToKw pos (keywordEach [] X.env))) := by rfl) : DE X (.Call (.Attribute o m apos) [] [] pos) S z S2 := by
  refine ⟨fun pins s σ H Q J ⟨F, G, α, R, q⟩ => ?_⟩
  refine PySem.W.methodCall_KW (pl := pl) (thn (ho.run pins s σ H _ J ⟨F, G, α, R, fun v G1 α1 H1 g1 a1 R1 uv => (show ∃ G1 α1, GX F G G1 ∧ AX S S1 α α1 ∧ Rl X.K F G1 α1 S1 σ H1 ∧ UV X.K G1 α1 S1.m _ v from ⟨G1, α1, g1, a1, R1, uv⟩)⟩) fun w s1 ⟨x, H1, J1, rx, G1, α1, g1, a1, R1, uv⟩ => ?_) ht
  obtain ⟨a, dx, vs, rfl, h1, h2, h3⟩ := of_ins (show Dat X.K G1 (.ins C ns fs) x from uv)
  cases rx
  refine getmeth_ok J1 (R1.fG _ _ h1) c hm (zip_lookup_none (ds := fs) h2 hns) ?_
  refine PySem.W.callWith_K0 (first := [.ref a]) J1.kIn hm.kp (fng_in (vs := [.ref a]) Fm hb hr J1.ok.frames J1 (.cons rfl .nil) ?_)
  exact spP_run (ds := [.ins C ns fs]) R1 (.cons uv .nil) hR hz fun v G3 α3 H3 g3 a3 R3 u3 => q v G3 α3 H3 (g1.trans g3) (a1.trans a3) R3 u3
/-- o.f, a property -/
theorem de_prop {R0 : List D → Res → Prop} (ho : DE X o S (.dat (.ins C ns fs)) S1) (c : Cls X.K C) (hp : PropOf X.K C f p g) (Fm : FnG X.prog X.w X.K X.mg X.base k g fd ps (SpP X.K R0)) (hb : Binds X.K fd ps []) (hr : RoomG (k + 1) X.A) (hR : R0 [.ins C ns fs] r) (hz : MadeR S1 r z S2)
    (hab : attributeBase o f X.env (eval o X.env) = eval o X.env := by rfl) : DE X (.Attribute o f pos) S z S2 := by
  refine ⟨fun pins s σ H Q J ⟨F, G, α, R, q⟩ => ?_⟩
  refine attr_of hab (thn (ho.run pins s σ H _ J ⟨F, G, α, R, fun v G1 α1 H1 g1 a1 R1 uv => (show ∃ G1 α1, GX F G G1 ∧ AX S S1 α α1 ∧ Rl X.K F G1 α1 S1 σ H1 ∧ UV X.K G1 α1 S1.m _ v from ⟨G1, α1, g1, a1, R1, uv⟩)⟩) fun w s1 ⟨x, H1, J1, rx, G1, α1, g1, a1, R1, uv⟩ => ?_)
  obtain ⟨a, dx, vs, rfl, h1, h2, h3⟩ := of_ins (show Dat X.K G1 (.ins C ns fs) x from uv)
  cases rx
  obtain ⟨od, I⟩ := ins_look J1 (R1.fG _ _ h1)
  obtain ⟨rest, hrec⟩ := hp.rec_
  have J2 := J1.tok (s1.toks + 1)
  have hcl : (PySem.W.clsIn X.K C).isSome = true := by
    obtain ⟨cd, e, _⟩ := PySem.W.any_some c.hd
    rw [e]
    rfl
  refine PySem.W.get_bind J1.kIn I (PySem.W.plainGet_of (c.get f)).1 (PySem.W.findObj_data hcl hp.at_ hp.get hp.tak) (PySem.W.plainGet_of (c.get f)).2 (wpAny_call (PySem.W.prop_get (s := { s1 with toks := s1.toks + 1 }) J1.kIn hrec ?_))
  have sp : SpP X.K R0 [.ref a] H1 Q := spP_run (ds := [.ins C ns fs]) R1 (.cons uv .nil) hR hz fun v G3 α3 H3 g3 a3 R3 u3 => q v G3 α3 H3 (g1.trans g3) (a1.trans a3) R3 u3
  have hl : ([Value.ref a] ++ []).length = ps.length := by rw [← Fm.len _ _ _ sp]; rfl
  refine codeAny_mono (Fm.run X.A.in1 X.stack { s1 with toks := s1.toks + 1 } H1 ⟨[.ref a], []⟩ [.ref a] [.ref a] Q hr.in1.rm hr.in1.gd J2.env0.in1 (hb _ [.ref a] J2.kIn hl) (.cons rfl .nil) sp) fun r s' hq => ?_
  cases r with
  | error er => exact False.elim hq
  | ok fl =>
    cases fl with
    | ret u =>
      obtain ⟨v, H', J3, rv, q3⟩ := J2.after hq
      show wpAny _ _ (handedOut u) _ _ _
      rw [PySem.W.handedOut_of (handed_of rv)]
      exact wpAny_pure ⟨v, H', J3, rv, q3⟩
    | next => exact False.elim hq
    | brk => exact False.elim hq
    | cont => exact False.elim hq
/-! ### len, repr, == by the class's own -/
theorem own_call {pins : List (Addr × Obj)} {σ : L2.St} {H : Hp} {s : Shared} {Q : VK} {A : Around} {us : List Value} {vs : List V} {sp : SpV} {B : Value → Shared → Prop} {E : Value → Shared → Prop} (Fm : FnG X.prog X.w X.K X.mg X.base k g fd ps sp) (hb : Binds X.K fd ps []) (hr : RoomG k A) (hf : A.frames = some X.stack) (J : L2.Inv X pins σ H s) (r : Vals vs us) (h : sp vs H Q)
    (kk : ∀ u s', EP X pins σ Q u s' → B u s') : wpAny (model X.prog X.w) A (call (.ref g) us) B E s := wpAny_mono (fng_in Fm hb hr hf J r h) kk fun _ _ x => x
theorem de_lenC {R0 : List D → Res → Prop} {pn : Pos} {n : Nat} (ho : DE X o S (.dat (.ins C ns fs)) S1) (hs : PySem.W.findIn X.K (.ref C) "__len__" = some (some (.ref g))) (hf : PySem.W.isFn X.K (.ref g) = true) (Fm : FnG X.prog X.w X.K X.mg X.base k g fd ps (SpP X.K R0)) (hb : Binds X.K fd ps []) (hr : RoomG (k + 1) X.A) (hR : R0 [.ins C ns fs] (.dat (.int n))) (hn : n < 1000000)
    (hm : X.mg "len" = none) (hg : Gl X "len" := by rfl) (he : starEach [o] X.env = (false, eval o X.env) :: starEach [] X.env := by rfl) : DE X (.Call (.Name "len" pn) [o] [] pos) S (.dat (.int n)) S1 := by
  refine ⟨fun pins s σ H Q J ⟨F, G, α, R, q⟩ => wpAny_Call_Name_kw (ld_blt J hg hm boot_len ?_)⟩
  refine PyProof.Rows.callWith_builtin1 (thn ((da_cons ho da_nil he).run pos pins s σ H _ J ⟨F, G, α, R, fun vs G1 α1 H1 g1 a1 R1 uv => (show ∃ G1 α1, GX F G G1 ∧ AX S S1 α α1 ∧ Rl X.K F G1 α1 S1 σ H1 ∧ UVs X.K G1 α1 S1.m _ vs from ⟨G1, α1, g1, a1, R1, uv⟩)⟩) fun ws s1 ⟨zs, H1, J1, rr, G1, α1, g1, a1, R1, uvs⟩ => ?_) he rfl
  obtain ⟨x, r2, rfl, uv, e⟩ := uvs
  have e : r2 = [] := e
  subst e
  obtain ⟨w, rfl, rx⟩ := vals1 rr
  obtain ⟨a, dx, vs, rfl, h1, h2, h3⟩ := of_ins (show Dat X.K G1 (.ins C ns fs) x from uv)
  cases rx
  obtain ⟨od, I⟩ := ins_look J1 (R1.fG _ _ h1)
  obtain ⟨mm, hF⟩ := J1.fr
  refine PySem.W.len_K hF J1.ok.mod.kin I hs hf (own_call (vs := [.ref a]) Fm hb hr.in1 (by exact J1.ok.frames) J1 (.cons rfl .nil) (spP_run (ds := [.ins C ns fs]) R1 (.cons uv .nil) hR (.dat _) fun v G3 α3 H3 g3 a3 R3 u3 => (show v = .int n ∧ Q (.int n) H3 from ⟨of_int u3, q _ G3 α3 H3 (g1.trans g3) (a1.trans a3) R3 (.int _)⟩)) fun u s' ⟨v, H', J3, rv, ev, q3⟩ => ?_)
  subst ev
  obtain ⟨t, rfl⟩ := rv
  exact ⟨⟨by omega, by omega⟩, ⟨.int n, H', J3.tok _, ⟨_, rfl⟩, q3⟩⟩
theorem de_reprC {R0 : List D → Res → Prop} {pn : Pos} {t : Str} (ho : DE X o S (.dat (.ins C ns fs)) S1) (hs : PySem.W.findIn X.K (.ref C) "__repr__" = some (some (.ref g))) (hf : PySem.W.isFn X.K (.ref g) = true) (Fm : FnG X.prog X.w X.K X.mg X.base k g fd ps (SpP X.K R0)) (hb : Binds X.K fd ps []) (hr : RoomG (k + 1) X.A) (hR : R0 [.ins C ns fs] (.dat (.str t)))
    (hm : X.mg "repr" = none) (hg : Gl X "repr" := by rfl) (he : starEach [o] X.env = (false, eval o X.env) :: starEach [] X.env := by rfl) : DE X (.Call (.Name "repr" pn) [o] [] pos) S (.dat (.str t)) S1 := by
  refine ⟨fun pins s σ H Q J ⟨F, G, α, R, q⟩ => wpAny_Call_Name_kw (ld_blt J hg hm PyProof.Rows.boot_repr ?_)⟩
  refine PyProof.Rows.callWith_builtin1 (thn ((da_cons ho da_nil he).run pos pins s σ H _ J ⟨F, G, α, R, fun vs G1 α1 H1 g1 a1 R1 uv => (show ∃ G1 α1, GX F G G1 ∧ AX S S1 α α1 ∧ Rl X.K F G1 α1 S1 σ H1 ∧ UVs X.K G1 α1 S1.m _ vs from ⟨G1, α1, g1, a1, R1, uv⟩)⟩) fun ws s1 ⟨zs, H1, J1, rr, G1, α1, g1, a1, R1, uvs⟩ => ?_) he rfl
  obtain ⟨x, r2, rfl, uv, e⟩ := uvs
  have e : r2 = [] := e
  subst e
  obtain ⟨w, rfl, rx⟩ := vals1 rr
  obtain ⟨a, dx, vs, rfl, h1, h2, h3⟩ := of_ins (show Dat X.K G1 (.ins C ns fs) x from uv)
  cases rx
  obtain ⟨od, I⟩ := ins_look J1 (R1.fG _ _ h1)
  obtain ⟨mm, hF⟩ := J1.fr
  refine PySem.W.repr_K (hr.in1.rm.units0) hF J1.ok.mod.kin I hs hf (own_call (vs := [.ref a]) Fm hb hr.in1 (by exact J1.ok.frames) J1 (.cons rfl .nil) (spP_run (ds := [.ins C ns fs]) R1 (.cons uv .nil) hR (.dat _) fun v G3 α3 H3 g3 a3 R3 u3 => (show v = .str t ∧ Q (.str t) H3 from ⟨of_str u3, q _ G3 α3 H3 (g1.trans g3) (a1.trans a3) R3 (.str _)⟩)) fun u s' ⟨v, H', J3, rv, ev, q3⟩ => ?_)
  subst ev
  obtain ⟨tk, rfl⟩ := rv
  exact ⟨.str t, H', J3, ⟨_, rfl⟩, q3⟩
def rEqC (X : Cx) (C : Addr) (sp : SpV) : R2 := fun x y H Q => ∃ a b dx dy fl gl, x = .ref a ∧ y = .ref b ∧ H a = some (.ins C dx fl) ∧ H b = some (.ins C dy gl) ∧ sp [.ref a, .ref b] H fun v H' => ∃ k, v = .bl k ∧ Q (.bl k) H'
theorem op_eqC {sp : SpV} (hs : PySem.W.findIn X.K (.ref C) "__eq__" = some (some (.ref g))) (hf : PySem.W.isFn X.K (.ref g) = true) (Fm : FnG X.prog X.w X.K X.mg X.base k g fd ps sp) (hb : Binds X.K fd ps []) (hr : RoomG k X.A) : OpR X (compareOp .Eq) (rEqC X C sp) := by
  rintro pins s σ H x y v u Q J rx ry ⟨a, b, dx, dy, fl, gl, rfl, rfl, ha, hb', q⟩
  cases rx
  cases ry
  obtain ⟨od, I⟩ := ins_look J ha
  obtain ⟨od2, I2⟩ := ins_look J hb'
  obtain ⟨mm, hF⟩ := J.fr
  show wpAny (model X.prog X.w) X.A (richCompare .Eq (.ref a) (.ref b)) (EP X pins σ Q) X.xe s
  refine PySem.W.cmp_K (op := .Eq) (tb := .ref C) hr.rm.units0 hF J.ok.mod.kin I I2.type (by simp [PySem.W.notFirst]) hs hf (own_call (vs := [.ref a, .ref b]) Fm hb hr J.ok.frames J (.cons rfl (.cons rfl .nil)) q fun u s' ⟨v, H', J3, rv, k', ev, q3⟩ => ?_)
  subst ev
  cases rv
  exact ⟨.bl k', H', J3, rfl, q3⟩
theorem opd_eqC {K : PySem.W.Frag} {R0 : List D → Res → Prop} {fs' : List D} {b : Bool} (hR : R0 [.ins C ns fs, .ins C ns fs'] (.dat (.bl b))) : OpD K (rEqC X C (SpP K R0)) S (.dat (.ins C ns fs)) (.dat (.ins C ns fs')) (.dat (.bl b)) S := by
  intro F G α σ H v y Q R hu hw q
  obtain ⟨a, dx, vs, rfl, h1, h2, h3⟩ := of_ins (show Dat K G (.ins C ns fs) v from hu)
  obtain ⟨a2, dx2, vs2, rfl, h4, h5, h6⟩ := of_ins (show Dat K G (.ins C ns fs') y from hw)
  exact ⟨a, a2, dx, dx2, _, _, rfl, rfl, R.fG _ _ h1, R.fG _ _ h4, spP_run (ds := [.ins C ns fs, .ins C ns fs']) R (.cons hu (.cons hw .nil)) hR (.dat _) fun v G3 α3 H3 g3 a3 R3 u3 => ⟨b, of_bl u3, q _ G3 α3 H3 g3 a3 R3 (.bl b)⟩⟩
end
/-! ### fields of an instance that is being made -/
def gFld (K : PySem.W.Frag) (ta : TE) (f : Str) : TG := fun y σ H Q => ta σ H fun x H1 => ∃ a C dx fs, x = .ref a ∧ H1 a = some (.ins C dx fs) ∧ Cls K C ∧ NoAttr K C f ∧ fs.length < 1000 ∧ Q σ (upd H1 a (.ins C dx (putF f y fs)))
section
variable {X : Cx} {o o2 e : Expr} {f f2 : Str} {pos po po2 pt : Pos} {S S1 : DSt} {C : Addr} {ns : List Str} {fs ds : List D} {d d2 : D} {n kt : Nat}
theorem pg_fld {ta : TE} (ha : PE X o ta) (hs : ∀ v, assign (.Attribute o f pos) X.env v = (do
      let ov ← holding [v] (eval o X.env)
      standAt pos.atName
      holding [v, ov] (setAttr ov f v)
      release [v, ov] []) := by intro _; rfl) : PG X (.Attribute o f pos) (gFld X.K ta f) := by
  refine ⟨fun pins s σ H v u Q J r h => ?_⟩
  rw [hs]
  refine wpAny_bind (wpAny_holding (thn (ha.run pins s σ H _ J h) fun ov s1 ⟨x, H1, J1, rx, a, C, dx, fs, ex, ea, c, n, l, q⟩ => ?_))
  subst ex
  cases rx
  refine wpAny_bind (wpAny_standAt (wpAny_bind (wpAny_holding (setattr_ok J1 ea c n l r fun s2 J2 => ?_))))
  exact wpAny_release ⟨σ, _, J2, q⟩
theorem putF_new {f : Str} {v : V} : ∀ {fs : List (Str × V)}, fs.lookup f = none → putF f v fs = fs ++ [(f, v)]
  | [], _ => rfl
  | (g, x) :: r, h => by
    rw [List.lookup_cons] at h
    have hg : ¬ g = f := fun z => by
      rw [z] at h
      simp at h
    have hb : (f == g) = false := by simpa using fun z => hg z.symm
    rw [hb] at h
    show (if g = f then (g, v) :: r else (g, x) :: putF f v r) = _
    rw [if_neg hg, putF_new h]
    rfl
theorem zip_snoc {β : Type} {ns : List Str} {vs : List β} {f : Str} {v : β} (h : ns.length = vs.length) : (ns ++ [f]).zip (vs ++ [v]) = ns.zip vs ++ [(f, v)] := by
  rw [List.zip_append h]
  rfl
/-- the field f comes new -/
theorem Rl.field {K : PySem.W.Frag} {F G : Hp} {α : Nat → Addr} {σ : L2.St} {H : Hp} {v : V} (R : Rl K F G α S σ H) (q : S.m[n]? = some (some (.ins C ns fs))) (hf : f ∉ ns) (hl : ns.length < 900) (h : Dat K G d v) :
    ∃ dx fl, H (α n) = some (.ins C dx fl) ∧ fl.length < 1000 ∧ Rl K F G α (setM S n (.ins C (ns ++ [f]) (fs ++ [d]))) σ (upd H (α n) (.ins C dx (putF f v fl))) := by
  obtain ⟨_, _, ob, h3, dx, vs, rfl, h4, h5⟩ := R.mu n _ q
  refine ⟨dx, _, h3, by rw [List.length_zip]; omega, ?_⟩
  have e : putF f v (ns.zip vs) = (ns ++ [f]).zip (vs ++ [v]) := by
    rw [zip_snoc h4]
    exact putF_new (zip_lookup_none (ds := fs) h4 hf)
  rw [e]
  exact (R.write (n := n) (mo := .ins C (ns ++ [f]) (fs ++ [d])) ⟨_, q⟩ ⟨dx, _, rfl, by rw [List.length_append, List.length_append, h4]; rfl, h5.app (.cons h .nil)⟩).2
theorem ds_fld (he : DE X e S (.dat d) S1) (ho : DE X o S1 (.own n) S1) (q : S1.m[n]? = some (some (.ins C ns fs))) (c : Cls X.K C) (na : NoAttr X.K C f) (hf : f ∉ ns := by decide) (hl : ns.length < 900 := by decide) (hs : swapsWith e (some (.Attribute o f po)) pos.line X.env = pure false := by rfl) :
    DS X (.Assign [.Attribute o f po] e pos) S (.nx (setM S1 n (.ins C (ns ++ [f]) (fs ++ [d])))) :=
  PS.wk (ps_fld ho he hs) fun E σ H ⟨F, G, α, R, k⟩ => ⟨F, G, α, R, fun v G1 α1 H1 g1 a1 R1 uv => ⟨F, G1, α1, R1, fun x G2 α2 H2 g2 a2 R2 ux => by
    obtain ⟨dx, fl, h1, h2, R3⟩ := R2.field q hf hl (Dat.mono g2.1 _ _ uv)
    exact ⟨α2 n, C, dx, fl, ux.1, h1, c, na, h2, k G2 α2 σ _ (g1.trans g2) (a2.1.trans a1.1) R3⟩⟩⟩
theorem ds_fld2 (hc : X.calm = true) (he : DE X e S (.dat (.tup [d, d2])) S1) (ho : DE X o S1 (.own n) S1) (ho2 : DE X o2 (setM S1 n (.ins C (ns ++ [f]) (fs ++ [d]))) (.own n) (setM S1 n (.ins C (ns ++ [f]) (fs ++ [d])))) (q : S1.m[n]? = some (some (.ins C ns fs))) (c : Cls X.K C) (na : NoAttr X.K C f) (na2 : NoAttr X.K C f2)
    (hf : f ∉ ns := by decide) (hf2 : f2 ∉ ns ++ [f] := by decide) (hl : ns.length < 800 := by decide)
    (hs : swapsWithSole [.Tuple [.Attribute o f po, .Attribute o2 f2 po2] kt pt] e pos.line X.env = pure false := by rfl) (hw : swappedStores [.Tuple [.Attribute o f po, .Attribute o2 f2 po2] kt pt] e X.env = pure none := by rfl)
    (h1 : (assignEach [.Tuple [.Attribute o f po, .Attribute o2 f2 po2] kt pt] X.env).map (·.2) = [assign (.Tuple [.Attribute o f po, .Attribute o2 f2 po2] kt pt) X.env] := by rfl)
    (hn : (assignEach [.Attribute o f po, .Attribute o2 f2 po2] X.env).length = 2 := by rfl) (hst : (assignEach [.Attribute o f po, .Attribute o2 f2 po2] X.env).findIdx? (·.1) = none := by rfl)
    (e1 : (assignEach [.Attribute o f po, .Attribute o2 f2 po2] X.env).map (·.2) = assign (.Attribute o f po) X.env :: (assignEach [.Attribute o2 f2 po2] X.env).map (·.2) := by rfl)
    (e2 : (assignEach [.Attribute o2 f2 po2] X.env).map (·.2) = assign (.Attribute o2 f2 po2) X.env :: (assignEach [] X.env).map (·.2) := by rfl)
    (hs1 : ∀ v, assign (.Attribute o f po) X.env v = (do
      let ov ← holding [v] (eval o X.env)
      standAt po.atName
      holding [v, ov] (setAttr ov f v)
      release [v, ov] []) := by intro _; rfl)
    (hs2 : ∀ v, assign (.Attribute o2 f2 po2) X.env v = (do
      let ov ← holding [v] (eval o2 X.env)
      standAt po2.atName
      holding [v, ov] (setAttr ov f2 v)
      release [v, ov] []) := by intro _; rfl) :
    DS X (.Assign [.Tuple [.Attribute o f po, .Attribute o2 f2 po2] kt pt] e pos) S (.nx (setM (setM S1 n (.ins C (ns ++ [f]) (fs ++ [d]))) n (.ins C ((ns ++ [f]) ++ [f2]) ((fs ++ [d]) ++ [d2])))) :=
  PS.wk (ps_asg he (pg_tup hc (pgs_cons (pg_fld ho hs1) (pgs_cons (pg_fld ho2 hs2) pgs_nil e2) e1) hn hst) hs hw h1) fun E σ H ⟨F, G, α, R, k⟩ => ⟨F, G, α, R, fun v G1 α1 H1 g1 a1 R1 uv => by
    obtain ⟨p, vs, rfl, h2, h3⟩ := of_tup (show Dat X.K G1 (.tup [d, d2]) v from uv)
    obtain ⟨v1, r1, rfl, d1, h4⟩ := of_dats h3
    obtain ⟨v2, r2, rfl, dd2, h5⟩ := of_dats h4
    have e := of_dats0 h5
    subst e
    refine ⟨p, [v1, v2], rfl, .of (R1.fG _ _ h2), rfl, v1, [v2], rfl, F, G1, α1, R1, fun x G2 α2 H2 g2 a2 R2 ux => ?_⟩
    obtain ⟨dx, fl, q1, q2, R3⟩ := R2.field q hf (by omega) (Dat.mono g2.1 _ _ d1)
    refine ⟨α2 n, C, dx, fl, ux.1, q1, c, na, q2, v2, [], rfl, F, G2, α2, R3, fun x3 G3 α3 H3 g3 a3 R4 ux3 => ?_⟩
    have lt : n < S1.m.length := (List.getElem?_eq_some_iff.mp q).1
    obtain ⟨dx', fl', p1, p2, R5⟩ := R4.field (n := n) (C := C) (ns := ns ++ [f]) (fs := fs ++ [d]) (f := f2) (d := d2) (List.getElem?_set_self lt) hf2 (by rw [List.length_append, List.length_singleton]; omega) (Dat.mono (g2.1.trans g3.1) _ _ dd2)
    exact ⟨α3 n, C, dx', fl', ux3.1, p1, c, na2, p2, rfl, k G3 α3 σ _ (g1.trans (g2.trans g3)) (a3.1.trans (a2.1.trans a1.1)) R5⟩⟩
end
end DL
/-! DX: shorthands. -/
namespace DL
open PySem PySem.Spec PyProof.Rows L2
section
variable {X : Cx} {a b c e : Expr} {S S1 S2 S3 : DSt} {u w z : U} {pos : Pos} {i j : Int} {d d' : D}
theorem de_ltI (ha : DE X a S (.dat (.int i)) S1) (hb : DE X b S1 (.dat (.int j)) S2) (hm : behindInMarks .Lt b = false := by rfl) : DE X (.Compare a [.Lt] [b] pos) S (.dat (.bl (decide (i < j)))) S2 := de_cmp op_lt ha hb opd_lt hm
theorem de_leI (ha : DE X a S (.dat (.int i)) S1) (hb : DE X b S1 (.dat (.int j)) S2) (hm : behindInMarks .LtE b = false := by rfl) : DE X (.Compare a [.LtE] [b] pos) S (.dat (.bl (decide (i ≤ j)))) S2 := de_cmp op_le ha hb opd_le hm
theorem de_gtI (ha : DE X a S (.dat (.int i)) S1) (hb : DE X b S1 (.dat (.int j)) S2) (hm : behindInMarks .Gt b = false := by rfl) : DE X (.Compare a [.Gt] [b] pos) S (.dat (.bl (decide (j < i)))) S2 := de_cmp op_gt ha hb opd_gt hm
theorem de_geI (ha : DE X a S (.dat (.int i)) S1) (hb : DE X b S1 (.dat (.int j)) S2) (hm : behindInMarks .GtE b = false := by rfl) : DE X (.Compare a [.GtE] [b] pos) S (.dat (.bl (decide (j ≤ i)))) S2 := de_cmp op_ge ha hb opd_ge hm
theorem de_eqI (ha : DE X a S (.dat (.int i)) S1) (hb : DE X b S1 (.dat (.int j)) S2) (hm : behindInMarks .Eq b = false := by rfl) : DE X (.Compare a [.Eq] [b] pos) S (.dat (.bl (decide (i = j)))) S2 := de_cmp op_eq ha hb opd_eqI hm
theorem de_neI (ha : DE X a S (.dat (.int i)) S1) (hb : DE X b S1 (.dat (.int j)) S2) (hm : behindInMarks .NotEq b = false := by rfl) : DE X (.Compare a [.NotEq] [b] pos) S (.dat (.bl (!decide (i = j)))) S2 := de_cmp op_ne ha hb opd_neI hm
theorem de_eqD (hu : X.A.units + 64 < cLine) (ha : DE X a S u S1) (hb : DE X b S1 w S2) (h1 : View S2.m u d) (h2 : View S2.m w d') (g1 : good 60 d = true) (g2 : good 60 d' = true) (hm : behindInMarks .Eq b = false := by rfl) : DE X (.Compare a [.Eq] [b] pos) S (.dat (.bl (eqD d d'))) S2 := de_cmp (op_eqD hu) ha hb (opd_eqD h1 h2 g1 g2) hm
theorem de_neD (hu : X.A.units + 64 < cLine) (ha : DE X a S u S1) (hb : DE X b S1 w S2) (h1 : View S2.m u d) (h2 : View S2.m w d') (g1 : good 60 d = true) (g2 : good 60 d' = true) (hm : behindInMarks .NotEq b = false := by rfl) : DE X (.Compare a [.NotEq] [b] pos) S (.dat (.bl (!eqD d d'))) S2 := de_cmp (op_neD hu) ha hb (opd_neD h1 h2 g1 g2) hm
theorem de_inD {ds : List D} (hu : X.A.units + 65 < cLine) (ha : DE X a S u S1) (hb : DE X b S1 w S2) (h1 : View S2.m u d) (h2 : View S2.m w (.lst ds)) (g1 : good 60 d = true) (g2 : good 60 (.lst ds) = true) (hm : behindInMarks .In b = false := by rfl) : DE X (.Compare a [.In] [b] pos) S (.dat (.bl (ds.any fun z => eqD z d))) S2 := de_cmp (op_inD hu) ha hb (opd_inD h1 h2 g1 g2) hm
theorem de_notInD {ds : List D} (hu : X.A.units + 65 < cLine) (ha : DE X a S u S1) (hb : DE X b S1 w S2) (h1 : View S2.m u d) (h2 : View S2.m w (.lst ds)) (g1 : good 60 d = true) (g2 : good 60 (.lst ds) = true) (hm : behindInMarks .NotIn b = false := by rfl) : DE X (.Compare a [.NotIn] [b] pos) S (.dat (.bl (!ds.any fun z => eqD z d))) S2 := de_cmp (op_notInD hu) ha hb (opd_notInD h1 h2 g1 g2) hm
theorem de_notInT {ds : List D} (hu : X.A.units + 65 < cLine) (ha : DE X a S u S1) (hb : DE X b S1 w S2) (h1 : View S2.m u d) (h2 : View S2.m w (.tup ds)) (g1 : good 60 d = true) (g2 : good 60 (.tup ds) = true) (hm : behindInMarks .NotIn b = false := by rfl) : DE X (.Compare a [.NotIn] [b] pos) S (.dat (.bl (!ds.any fun z => eqD z d))) S2 := de_cmp (op_notInT hu) ha hb (opd_notInT h1 h2 g1 g2) hm
theorem de_ixL {ds : List D} (ha : DE X a S u S1) (hb : DE X b S1 (.dat (.int i)) S2) (q : LU S2.m u ds) (e : atI ds i = some d) (hs : PlainIx b := by exact fun _ _ => rfl) : DE X (.Subscript a b pos) S (.dat d) S2 := de_ix ha hb (opd_ixL q e) hs
theorem de_ixT {ds : List D} (ha : DE X a S (.dat (.tup ds)) S1) (hb : DE X b S1 (.dat (.int i)) S2) (e : atI ds i = some d) (hs : PlainIx b := by exact fun _ _ => rfl) : DE X (.Subscript a b pos) S (.dat d) S2 := de_ix ha hb (opd_ixT e) hs
theorem de_ixU {us : List U} {n : Nat} (ha : DE X a S (.own n) S1) (hb : DE X b S1 (.dat (.int i)) S2) (q : S2.m[n]? = some (some (.lsu us))) (h0 : 0 ≤ i) (e : us[i.toNat]? = some z) (hs : PlainIx b := by exact fun _ _ => rfl) : DE X (.Subscript a b pos) S z S2 := de_ix ha hb (opd_ixU q h0 e) hs
/-! truth -/
theorem dt_ltI (ha : DE X a S (.dat (.int i)) S1) (hb : DE X b S1 (.dat (.int j)) S2) (hm : behindInMarks .Lt b = false := by rfl) : DT X (.Compare a [.Lt] [b] pos) S (decide (i < j)) S2 := dt_cmp op_lt ha hb opd_lt hm
theorem dt_leI (ha : DE X a S (.dat (.int i)) S1) (hb : DE X b S1 (.dat (.int j)) S2) (hm : behindInMarks .LtE b = false := by rfl) : DT X (.Compare a [.LtE] [b] pos) S (decide (i ≤ j)) S2 := dt_cmp op_le ha hb opd_le hm
theorem dt_gtI (ha : DE X a S (.dat (.int i)) S1) (hb : DE X b S1 (.dat (.int j)) S2) (hm : behindInMarks .Gt b = false := by rfl) : DT X (.Compare a [.Gt] [b] pos) S (decide (j < i)) S2 := dt_cmp op_gt ha hb opd_gt hm
theorem dt_geI (ha : DE X a S (.dat (.int i)) S1) (hb : DE X b S1 (.dat (.int j)) S2) (hm : behindInMarks .GtE b = false := by rfl) : DT X (.Compare a [.GtE] [b] pos) S (decide (j ≤ i)) S2 := dt_cmp op_ge ha hb opd_ge hm
theorem dt_eqI (ha : DE X a S (.dat (.int i)) S1) (hb : DE X b S1 (.dat (.int j)) S2) (hm : behindInMarks .Eq b = false := by rfl) : DT X (.Compare a [.Eq] [b] pos) S (decide (i = j)) S2 := dt_cmp op_eq ha hb opd_eqI hm
theorem dt_neI (ha : DE X a S (.dat (.int i)) S1) (hb : DE X b S1 (.dat (.int j)) S2) (hm : behindInMarks .NotEq b = false := by rfl) : DT X (.Compare a [.NotEq] [b] pos) S (!decide (i = j)) S2 := dt_cmp op_ne ha hb opd_neI hm
theorem dt_eqD (hu : X.A.units + 64 < cLine) (ha : DE X a S u S1) (hb : DE X b S1 w S2) (h1 : View S2.m u d) (h2 : View S2.m w d') (g1 : good 60 d = true) (g2 : good 60 d' = true) (hm : behindInMarks .Eq b = false := by rfl) : DT X (.Compare a [.Eq] [b] pos) S (eqD d d') S2 := dt_cmp (op_eqD hu) ha hb (opd_eqD h1 h2 g1 g2) hm
theorem dt_neD (hu : X.A.units + 64 < cLine) (ha : DE X a S u S1) (hb : DE X b S1 w S2) (h1 : View S2.m u d) (h2 : View S2.m w d') (g1 : good 60 d = true) (g2 : good 60 d' = true) (hm : behindInMarks .NotEq b = false := by rfl) : DT X (.Compare a [.NotEq] [b] pos) S (!eqD d d') S2 := dt_cmp (op_neD hu) ha hb (opd_neD h1 h2 g1 g2) hm
theorem dt_isN {j : Nat} {pos' : Pos} (ha : DE X a S u S1) (he : ∀ whole, isTrue (.Compare a [.Is] [.Constant .none j pos'] pos) X.env whole = (do let v ← whole; standAt (Expr.pos (.Compare a [.Is] [.Constant .none j pos'] pos)); holding [v] (truthy v)) := by intro _; rfl) : DT X (.Compare a [.Is] [.Constant .none j pos'] pos) S (isNon u) S1 := dt_val (de_isN ha) he
theorem dt_notN {j : Nat} {pos' : Pos} (ha : DE X a S u S1) (he : ∀ whole, isTrue (.Compare a [.IsNot] [.Constant .none j pos'] pos) X.env whole = (do let v ← whole; standAt (Expr.pos (.Compare a [.IsNot] [.Constant .none j pos'] pos)); holding [v] (truthy v)) := by intro _; rfl) : DT X (.Compare a [.IsNot] [.Constant .none j pos'] pos) S (!isNon u) S1 := dt_val (de_notN ha) he
end
/-! ### comprehensions over data, one clause -/
section
variable {X : Cx} {T : Tgt} {scope : Scope} {elt : Expr} {g : List (Option U)}
/-- each turn makes f d, and what is owned stays -/
theorem lc_map {m : List (Option MO)} {f : D → D} : ∀ {ds : List D}, (∀ d ∈ ds, ∃ S1 S2, asg T d ⟨g, m⟩ = some S1 ∧ BE X scope elt S1 (.dat (f d)) S2 ∧ S2.m = m) → LcR X scope T [] elt g ds m (ds.map f) m
  | [], _ => .nil
  | d :: ds, h => by
    obtain ⟨S1, S2, h1, h2, h3⟩ := h d List.mem_cons_self
    refine .yes h1 bt_nil h2 ?_
    rw [h3]
    exact lc_map fun d hd => h d (List.mem_cons_of_mem _ hd)
/-- each turn is kept where p d holds -/
theorem lc_filt {m : List (Option MO)} {p : D → Bool} {f : D → D} {c : Expr} : ∀ {ds : List D}, (∀ d ∈ ds, ∃ S1 S2 S3, asg T d ⟨g, m⟩ = some S1 ∧ BT X scope [c] S1 (p d) S2 ∧ S2.m = m ∧ BE X scope elt S2 (.dat (f d)) S3 ∧ S3.m = m) →
    LcR X scope T [c] elt g ds m ((ds.filter p).map f) m
  | [], _ => .nil
  | d :: ds, h => by
    obtain ⟨S1, S2, S3, h1, h2, h3, h4, h5⟩ := h d List.mem_cons_self
    have t := lc_filt (p := p) (f := f) fun d hd => h d (List.mem_cons_of_mem _ hd)
    cases q : p d with
    | true =>
      rw [q] at h2
      rw [List.filter_cons_of_pos q, List.map_cons]
      refine .yes h1 h2 h4 ?_
      rw [h5]
      exact t
    | false =>
      rw [q] at h2
      rw [List.filter_cons_of_neg (by rw [q]; exact Bool.false_ne_true)]
      refine .no h1 h2 ?_
      rw [h3]
      exact t
end
/-! ### numbers in tuples and lists -/
abbrev tI (l : List Int) : D := .tup (l.map .int)
abbrev lI (l : List Int) : D := .lst (l.map .int)
end DL
/-! DY: defs by name, calls of them. -/
namespace DL
open PySem PySem.Spec PyProof.Rows L2
def FunX (K : PySem.W.Frag) (mg : Str → Option Value) (x : Str) (st : Stmt) (ps : List Str) : Prop := ∃ f fd, Fun K x x st f fd ∧ mg x = some (.ref f) ∧ Binds K fd ps []
def CalE (P : Program) (w : World) (K : PySem.W.Frag) (mg : Str → Option Value) (base : Heap) (k : Nat) (x : Str) (st : Stmt) (ps : List Str) (sp : SpV) : Prop := ∃ f fd, Cal P w K mg base k x st f fd ps sp
section
variable {P : Program} {w : World} {K : PySem.W.Frag} {mg : Str → Option Value} {base : Heap} {j k : Nat} {x : Str} {st : Stmt} {ps N : List Str} {sp : SpV}
theorem FnG.toCalE (F : FunX K mg x st ps) (h : ∀ f fd, Fun K x x st f fd → FnG P w K mg base k f fd ps sp) : CalE P w K mg base k x st ps sp := by
  obtain ⟨f, fd, h1, h2, h3⟩ := F
  exact ⟨f, fd, h1, h2, h f fd h1, h3⟩
theorem CalE.mono (C : CalE P w K mg base j x st ps sp) (h : j ≤ k) : CalE P w K mg base k x st ps sp := by
  obtain ⟨f, fd, C⟩ := C
  exact ⟨f, fd, C.fn, C.mgf, C.ok.mono h, C.bi⟩
/-- a def that changes nothing -/
theorem calP {R0 : List D → Res → Prop} (F : FunX K mg x st ps) (S : FnScope N ps (defScope st)) (m : Nat) (hl : ∀ ds r, R0 ds r → ds.length = ps.length)
    (body : ∀ ds r, R0 ds r → ∀ (f : Addr) (cdv : Value) (A : Around) (outer : List Env) (s : Shared) (H : Hp), RoomG k (A.deeper (envOfC x (defScope st) s.heap.objs.size f cdv)) → Runs (BodyX P w K mg base N x st f cdv A outer s H) (defBody st) (st0 N ds m) r) :
    CalE P w K mg base (k + 1) x st ps (SpP K R0) := FnG.toCalE F fun f fd h => fng_pure h S m hl fun ds r hR cdv => body ds r hR f cdv
/-- a def that changes its first list -/
theorem calO {R0 : List D → List D → Res → List D → Prop} (F : FunX K mg x st ps) (S : FnScope N ps (defScope st)) (m : Nat) (hl : ∀ c ds r c', R0 c ds r c' → ds.length + 1 = ps.length)
    (body : ∀ c ds r c', R0 c ds r c' → ∀ (f : Addr) (cdv : Value) (A : Around) (outer : List Env) (s : Shared) (H : Hp), RoomG k (A.deeper (envOfC x (defScope st) s.heap.objs.size f cdv)) → RunsO (BodyX P w K mg base N x st f cdv A outer s H) (defBody st) (st1 N c ds m) r c') :
    CalE P w K mg base (k + 1) x st ps (SpO K R0) := FnG.toCalE F fun f fd h => fng_own h S m hl fun c ds r c' hR cdv => body c ds r c' hR f cdv
end
section
variable {X : Cx} {j k : Nat} {x : Str} {st : Stmt} {ps : List Str} {p pos : Pos} {e : Expr} {es : List Expr} {S S1 S2 : DSt} {us : List U} {ds : List D} {z : U} {r : Res}
theorem de_cP {R0 : List D → Res → Prop} (C : CalE X.prog X.w X.K X.mg X.base j x st ps (SpP X.K R0)) (hr : RoomG k X.A) (ha : DAr X (e :: es) S us S1) (hR : R0 ds r) (hm : MadeR S1 r z S2) (hjk : j ≤ k := by decide) (hu : AllD us ds := by repeat constructor) (hg : Gl X x := by rfl) (hdb : (x == ("__debug__" : Str)) = false := by decide)
    (he : starEach (e :: es) X.env = (false, eval e X.env) :: starEach es X.env := by rfl) (hpl : (backTo pos (starEach es X.env)).any (·.1) = false := by rfl) : DE X (.Call (.Name x p) (e :: es) [] pos) S z S2 := by
  obtain ⟨f, fd, C⟩ := C
  exact de_callP C (hr.mono hjk) ha hR hm hu hg hdb he hpl
theorem de_cO {R0 : List D → List D → Res → List D → Prop} {n : Nat} {c c' : List D} (C : CalE X.prog X.w X.K X.mg X.base j x st ps (SpO X.K R0)) (hr : RoomG k X.A) (ha : DAr X (e :: es) S (.own n :: us) S1) (hc : S1.m[n]? = some (some (.lst c))) (hR : R0 c ds r c') (hm : MadeR (setM S1 n (.lst c')) r z S2) (hjk : j ≤ k := by decide)
    (hu : AllD us ds := by repeat constructor) (hg : Gl X x := by rfl) (hdb : (x == ("__debug__" : Str)) = false := by decide)
    (he : starEach (e :: es) X.env = (false, eval e X.env) :: starEach es X.env := by rfl) (hpl : (backTo pos (starEach es X.env)).any (·.1) = false := by rfl) : DE X (.Call (.Name x p) (e :: es) [] pos) S z S2 := by
  obtain ⟨f, fd, C⟩ := C
  exact de_callO C (hr.mono hjk) ha hc hR hm hu hg hdb he hpl
end
section
variable {X : Cx} {e tg iter elt : Expr} {S S1 S2 : DSt} {u u' : U} {ds : List D} {pos pos' : Pos} {T : Tgt} {scope : Scope}
theorem de_to (h : DE X e S u S1) (q : u = u') : DE X e S u' S1 := q ▸ h
theorem dt_to {b b' : Bool} (h : DT X e S b S1) (q : b = b') : DT X e S b' S1 := q ▸ h
theorem lc_bl {g : List (Option U)} {m : List (Option MO)} {p : D → Bool} (h : ∀ d ∈ ds, ∃ S1 S2, asg T d ⟨g, m⟩ = some S1 ∧ BE X scope elt S1 (.dat (.bl (p d))) S2 ∧ S2.m = m) : LcR X scope T [] elt g ds m ((ds.map p).map D.bl) m := by
  rw [List.map_map]
  exact lc_map h
theorem de_allLc {p : Pos} (own : List (Str × Nat)) (q : D → Bool) (hc : X.calm = true) (hm : X.mg "all" = none) (hN : X.N.Nodup) (hi : DI X tg iter S ds S1) (ok : BlkOk X.N X.env.scope scope own) (hT : T.ins (own.map (·.2)) = true)
    (hg : ∀ (s : Shared) (H : Hp) (C : Addr) (cl : List (Str × Addr)) (fp : List Addr), TgOk (X.blk s H scope (compEnvC scope cl C X.env) fp) tg T)
    (f : ∀ d ∈ ds, ∃ S2 S3, asg T d ⟨wipeG S1.g (own.map (·.2)), S1.m⟩ = some S2 ∧ BE X scope elt S2 (.dat (.bl (q d))) S3 ∧ S3.m = S1.m) (hz : ds.length ≤ 1000000) (hs : ∀ x, foldedSetIterable iter X.env x = pure x := by intro _; rfl)
    (hgl : Gl X "all" := by rfl) (he : starEach [.ListComp elt [⟨tg, iter, [], 0⟩] scope pos] X.env = (false, eval (.ListComp elt [⟨tg, iter, [], 0⟩] scope pos) X.env) :: starEach [] X.env := by rfl) :
    DE X (.Call (.Name "all" p) [.ListComp elt [⟨tg, iter, [], 0⟩] scope pos] [] pos') S (.dat (.bl (ds.all q))) S1 := by
  refine de_to (de_all hc hm (de_lc hc hN hi ok hT hg (lc_bl f) (.dl _) hz hs) (.dat _) hgl he) ?_
  rw [List.all_map]
  rfl
end
theorem ok_lst {ds : List D} : tyN (.lst ds) ≠ "" := by simp [tyN]
theorem ok_tup {ds : List D} : tyN (.tup ds) ≠ "" := by simp [tyN]
theorem ok_int {i : Int} : tyN (.int i) ≠ "" := by simp [tyN]
theorem ok_bl {i : Bool} : tyN (.bl i) ≠ "" := by simp [tyN]
theorem ok_str {i : Str} : tyN (.str i) ≠ "" := by simp [tyN]
theorem ok_non : tyN .non ≠ "" := by simp [tyN]
theorem ok_dic {t : Bool} {ks vs : List D} : tyN (.dic t ks vs) ≠ "" := by simp [tyN]
theorem ok_lkd {ks : List (List Key)} {vs : List D} : tyN (.lkd ks vs) ≠ "" := by simp [tyN]
/-! more sources and targets -/
def rngN (n : Nat) : List D := (List.range n).map fun i => .int ((i : Nat) : Int)
theorem rngD_rngN (n : Nat) : rngD 0 n = rngN n := by
  unfold rngD rngN
  exact List.map_congr_left fun i _ => by rw [Int.zero_add]
section
variable {X : Cx} {e a b tg : Expr} {S S1 S2 : DSt} {ds : List D} {v : D} {pos : Pos}
theorem di_sq (h : DE X e S (.dat v) S1) (q : v = .lst ds ∨ v = .tup ds) : DI X tg e S ds S1 := by
  cases q with
  | inl q => subst q; exact di_lst h
  | inr q => subst q; exact di_tup h
theorem di_rng {n : Nat} {p : Pos} (hm : X.mg "range" = none) (h : DE X a S (.dat (.int n)) S1) (hn : n ≤ 1000000) (hg : Gl X "range" := by rfl)
    (he : starEach [a] X.env = (false, eval a X.env) :: starEach [] X.env := by rfl) (h1 : starEach [a] X.env = [(false, eval a X.env)] := by rfl) : DI X tg (.Call (.Name "range" p) [a] [] pos) S (rngN n) S1 := by
  have q := di_range1 (tg := tg) (pos := pos) (p := p) hm h (by omega) (by omega) hg he h1
  rw [Int.toNat_natCast, rngD_rngN] at q
  exact q
theorem tg_two {i j : Nat} {x y : Str} {px py pt : Pos} {k : Nat} (hc : X.calm = true) (hN : X.N.Nodup) (hi : X.N[i]? = some x := by rfl) (hj : X.N[j]? = some y := by rfl) (hx : L2.Loc X.env.scope x := by first | exact Or.inl rfl | exact Or.inr rfl) (hy : L2.Loc X.env.scope y := by first | exact Or.inl rfl | exact Or.inr rfl)
    (fx : X.fn x = true ∨ X.env.scope.names.lookup x = some .local := by first | exact Or.inl rfl | exact Or.inr rfl) (fy : X.fn y = true ∨ X.env.scope.names.lookup y = some .local := by first | exact Or.inl rfl | exact Or.inr rfl)
    (h1 : (assignEach [.Name x px, .Name y py] X.env).length = 2 := by rfl) (h2 : (assignEach [.Name x px, .Name y py] X.env).findIdx? (·.1) = none := by rfl)
    (h3 : (assignEach [.Name x px, .Name y py] X.env).map (·.2) = assign (.Name x px) X.env :: (assignEach [.Name y py] X.env).map (·.2) := by rfl) (h4 : (assignEach [.Name y py] X.env).map (·.2) = assign (.Name y py) X.env :: (assignEach [] X.env).map (·.2) := by rfl) : TgOk X (.Tuple [.Name x px, .Name y py] k pt) (.tup [i, j]) :=
  pg_tup hc (pgs_cons (pg_name hN hi hx fx) (pgs_cons (pg_name hN hj hy fy) pgs_nil h4) h3) h1 h2
end
section
variable {X : Cx} {T T1 : Tgt} {scope : Scope} {elt tg1 iter1 : Expr} {g : List (Option U)} {vs1 : List Nat} {ifs1 : List Expr}
theorem lc2_map {m : List (Option MO)} {f : D → List D} : ∀ {ds : List D}, (∀ d ∈ ds, ∃ S1 S3 ds1, asg T d ⟨g, m⟩ = some S1 ∧ BDI X scope tg1 iter1 S1 ds1 S3 ∧ S3.m = m ∧ ds1.length ≤ 1000 ∧ LcR X scope T1 ifs1 elt (wipeG S3.g vs1) ds1 m (f d) m) →
    Lc2R X scope T [] tg1 iter1 T1 ifs1 elt vs1 g ds m (ds.flatMap f) m
  | [], _ => .nil
  | d :: ds, h => by
    obtain ⟨S1, S3, ds1, h1, h2, h3, h4, h5⟩ := h d List.mem_cons_self
    rw [List.flatMap_cons]
    refine .yes h1 bt_nil h2 h4 (by rw [h3]; exact h5) ?_
    exact lc2_map fun d hd => h d (List.mem_cons_of_mem _ hd)
end
end DL
/-! DV: bodies with what holds at their ends. -/
namespace DL
open PySem PySem.Spec PyProof.Rows L2
def Ex (X : Cx) (sts : List Stmt) (S : DSt) (Φ : Out → Prop) : Prop := ∃ out, DSs X sts S out ∧ Φ out
/-- what follows a statement: the rest where it falls through -/
def thenE (X : Cx) (sts : List Stmt) (Φ : Out → Prop) : Out → Prop
  | .nx S => Ex X sts S Φ
  | o => Φ o
/-- what a turn of a loop may end in -/
def turnE (X : Cx) (sts : List Stmt) (Φ : Out → Prop) (nx : DSt → Prop) : Out → Prop
  | .nx S => nx S
  | .ct S => nx S
  | .bk S => Ex X sts S Φ
  | .rt u S => Φ (.rt u S)
section
variable {X : Cx} {e c : Expr} {S S1 S2 : DSt} {u : U} {r : Res} {pos : Pos} {st : Stmt} {sts a b : List Stmt} {c' : List D} {Φ Ψ : Out → Prop}
theorem Ex.runs (h : Ex X sts S fun o => EndR o r) : Runs X sts S r := h
theorem Ex.runsO (h : Ex X sts S fun o => EndR o r ∧ (outM o)[0]? = some (some (.lst c'))) : RunsO X sts S r c' := h
theorem ex_nil (h : Φ (.nx S)) : Ex X [] S Φ := ⟨_, dss_nil, h⟩
theorem ex_cons (h : DS X st S (.nx S1)) (t : Ex X sts S1 Φ) : Ex X (st :: sts) S Φ := by
  obtain ⟨out, h2, e⟩ := t
  exact ⟨out, dss_cons h h2, e⟩
theorem ex_ret (h : DE X e S u S1) (q : Φ (.rt u S1)) : Ex X (.Return (some e) pos :: sts) S Φ := ⟨_, dss_out (ds_ret h) rfl, q⟩
theorem ex_retN (q : Φ (.rt (.dat .non) S)) : Ex X (.Return none pos :: sts) S Φ := ⟨_, dss_out ds_retN rfl, q⟩
theorem ex_brk (q : Φ (.bk S)) : Ex X (.Break pos :: sts) S Φ := ⟨_, dss_out ds_break rfl, q⟩
theorem ex_ct (q : Φ (.ct S)) : Ex X (.Continue pos :: sts) S Φ := ⟨_, dss_out ds_continue rfl, q⟩
theorem ex_fz (f : Fz X.K S S1) (t : Ex X sts S1 Φ) : Ex X sts S Φ := by
  obtain ⟨out, h2, e⟩ := t
  exact ⟨out, dss_fz f h2, e⟩
theorem Ex.mono (h : Ex X sts S Φ) (q : ∀ o, Φ o → Ψ o) : Ex X sts S Ψ := by
  obtain ⟨o, h1, h2⟩ := h
  exact ⟨o, h1, q o h2⟩
theorem ex_st {out : Out} (h : DS X st S out) (q : thenE X sts Φ out) : Ex X (st :: sts) S Φ := by
  cases out with
  | nx S1 => exact ex_cons h q
  | bk S1 => exact ⟨_, dss_out h rfl, q⟩
  | ct S1 => exact ⟨_, dss_out h rfl, q⟩
  | rt u S1 => exact ⟨_, dss_out h rfl, q⟩
theorem ex_ifT (hc : DT X c S true S1) (t : Ex X a S1 (thenE X sts Φ)) : Ex X (.If c a b pos :: sts) S Φ := by
  obtain ⟨out, h2, e⟩ := t
  exact ex_st (ds_ifT hc h2) e
theorem ex_ifF (hc : DT X c S false S1) (t : Ex X b S1 (thenE X sts Φ)) : Ex X (.If c a b pos :: sts) S Φ := by
  obtain ⟨out, h2, e⟩ := t
  exact ex_st (ds_ifF hc h2) e
theorem ex_ifN (hc : DT X c S false S1) (t : Ex X sts S1 Φ) : Ex X (.If c a [] pos :: sts) S Φ := ex_ifF hc (ex_nil t)
theorem ex_for {tg iter : Expr} {T : Tgt} {body : List Stmt} {ds : List D} (Inv : List D → DSt → Prop) (hc : X.calm = true) (hi : DI X tg iter S ds S1) (hg : TgOk X tg T) (h0 : Inv ds S1)
    (step : ∀ d rest S, Inv (d :: rest) S → ∃ S2, asg T d S = some S2 ∧ Ex X body S2 (turnE X sts Φ (Inv rest))) (fin : ∀ S', Inv [] S' → Ex X sts S' Φ)
    (hp : PassesOwn (model X.prog X.w) X.A X.env X.xe := by exact PassesOwn.never) (hs : ∀ x, foldedSetIterable iter X.env x = pure x := by intro _; rfl) : Ex X (.For tg iter body [] pos :: sts) S Φ := by
  have key : ∀ (ds : List D) (S : DSt), Inv ds S → ∃ out, ForR X T body ds S out ∧ thenE X sts Φ out := by
    intro ds
    induction ds with
    | nil => exact fun S h => ⟨_, .nil, fin S h⟩
    | cons d ds ih =>
      intro S h
      obtain ⟨S2, h1, out, h2, h3⟩ := step d ds S h
      cases out with
      | nx S3 =>
        obtain ⟨out, h4, h5⟩ := ih S3 h3
        exact ⟨out, .next h1 h2 h4, h5⟩
      | ct S3 =>
        obtain ⟨out, h4, h5⟩ := ih S3 h3
        exact ⟨out, .cont h1 h2 h4, h5⟩
      | bk S3 => exact ⟨_, .brk h1 h2, h3⟩
      | rt u S3 => exact ⟨_, .ret h1 h2, h3⟩
  obtain ⟨out, h1, h2⟩ := key ds S1 h0
  exact ex_st (ds_for hc hi hg h1 hp hs) h2
theorem ex_while {body : List Stmt} (Inv : Nat → DSt → Prop) {n : Nat} (h0 : Inv n S)
    (step : ∀ n S, Inv n S → (∃ S', DT X c S false S' ∧ Ex X sts S' Φ) ∨ ∃ S', DT X c S true S' ∧ Ex X body S' (turnE X sts Φ fun S2 => ∃ m, m < n ∧ Inv m S2))
    (hp : PassesOwn (model X.prog X.w) X.A X.env X.xe := by exact PassesOwn.never) : Ex X (.While c body [] pos :: sts) S Φ := by
  have key : ∀ (n : Nat) (S : DSt), Inv n S → ∃ out, WhileR X c body n S out ∧ thenE X sts Φ out := by
    intro n
    induction n using Nat.strongRecOn with
    | ind n ih =>
      intro S h
      have up : ∀ {m : Nat} {S : DSt} {out : Out}, m < n → WhileR X c body m S out → WhileR X c body (n - 1) S out := fun {m S out} hm w => by
        have : ∀ {m k : Nat} {S : DSt} {out : Out}, WhileR X c body m S out → m ≤ k → WhileR X c body k S out := by
          intro m k S out w
          induction w generalizing k with
          | stop h => exact fun _ => .stop h
          | next h1 h2 _ ih =>
            intro hk
            obtain ⟨k, rfl⟩ : ∃ j, k = j + 1 := ⟨k - 1, by omega⟩
            exact .next h1 h2 (ih (by omega))
          | cont h1 h2 _ ih =>
            intro hk
            obtain ⟨k, rfl⟩ : ∃ j, k = j + 1 := ⟨k - 1, by omega⟩
            exact .cont h1 h2 (ih (by omega))
          | brk h1 h2 => exact fun _ => .brk h1 h2
          | ret h1 h2 => exact fun _ => .ret h1 h2
        exact this w (by omega)
      rcases step n S h with ⟨S', h1, h2⟩ | ⟨S', h1, out, h2, h3⟩
      · exact ⟨_, .stop h1, h2⟩
      · cases out with
        | nx S3 =>
          obtain ⟨m, hm, h3⟩ := h3
          obtain ⟨out, h4, h5⟩ := ih m hm S3 h3
          obtain ⟨k, rfl⟩ : ∃ j, n = j + 1 := ⟨n - 1, by omega⟩
          exact ⟨out, .next h1 h2 (up hm h4), h5⟩
        | ct S3 =>
          obtain ⟨m, hm, h3⟩ := h3
          obtain ⟨out, h4, h5⟩ := ih m hm S3 h3
          obtain ⟨k, rfl⟩ : ∃ j, n = j + 1 := ⟨n - 1, by omega⟩
          exact ⟨out, .cont h1 h2 (up hm h4), h5⟩
        | bk S3 => exact ⟨_, .brk h1 h2, h3⟩
        | rt u S3 => exact ⟨_, .ret h1 h2, h3⟩
  obtain ⟨out, h1, h2⟩ := key n S h0
  exact ex_st (ds_while h1 hp) h2
end
section
variable {X : Cx} {a : Expr} {S S1 : DSt} {pos : Pos}
theorem dt_notT (h : DT X a S false S1) : DT X (.UnaryOp .Not a pos) S true S1 := dt_not h
theorem dt_notF (h : DT X a S true S1) : DT X (.UnaryOp .Not a pos) S false S1 := dt_not h
theorem de_notT (h : DE X a S (.dat (.bl false)) S1) : DE X (.UnaryOp .Not a pos) S (.dat (.bl true)) S1 := de_not h
theorem de_notF (h : DE X a S (.dat (.bl true)) S1) : DE X (.UnaryOp .Not a pos) S (.dat (.bl false)) S1 := de_not h
end
/-! f-strings of more parts, where nothing is made -/
inductive DJ (X : Cx) (S : DSt) : List Expr → List Str → Prop
  | nil : DJ X S [] []
  | cons {e : Expr} {x : Str} {es : List Expr} {xs : List Str} : DE X e S (.dat (.str x)) S → DJ X S es xs → DJ X S (e :: es) (x :: xs)
def joinS (acc : Str) (xs : List Str) : Str := xs.foldl (fun a x => a ++ x) acc
theorem foldl_len (xs : List Str) : ∀ acc : Str, (xs.foldl (fun a x => a ++ x) acc).length = acc.length + (xs.map fun x => x.length).sum := by
  induction xs with
  | nil => intro acc; simp
  | cons x xs ih =>
    intro acc
    rw [List.foldl_cons, ih, List.map_cons, List.sum_cons]
    have : (acc ++ x).length = acc.length + x.length := Str.length_append ..
    omega
theorem de_joined {X : Cx} {v1 v2 : Expr} {rest : List Expr} {xs : List Str} {S : DSt} {pos : Pos} (h : DJ X S (v1 :: v2 :: rest) xs) (hz : (xs.map fun x => x.length).sum ≤ 10000000) : DE X (.JoinedStr (v1 :: v2 :: rest) pos) S (.dat (.str (joinS Str.empty xs))) S := by
  have key : ∀ {es : List Expr} {xs : List Str}, DJ X S es xs → ∃ ts, PJ X es ts ∧ ∀ (acc : Str) (F G : Hp) (α : Nat → Addr) (σ : L2.St) (H : Hp) (Q : Str → Hp → Prop), acc.length + (xs.map fun x => x.length).sum ≤ 10000000 → Rl X.K F G α S σ H →
      (∀ G' α' H', GX F G G' → AX S S α α' → Rl X.K F G' α' S σ H' → Q (joinS acc xs) H') → tJs ts acc σ H Q := by
    intro es xs h
    induction h with
    | nil => exact ⟨[], .nil, fun acc F G α σ H Q _ R k => k G α H .refl .refl R⟩
    | @cons e x es xs he _ ih =>
      obtain ⟨ts, h1, h2⟩ := ih
      refine ⟨_ :: ts, .cons he h1, fun acc F G α σ H Q hz R k => ?_⟩
      rw [List.map_cons, List.sum_cons] at hz
      have e1 : (acc ++ x).length = acc.length + x.length := Str.length_append ..
      show tD X.K S _ S σ H _
      refine ⟨F, G, α, R, fun v G1 α1 H1 g1 a1 R1 uv => ?_⟩
      have e2 : v = .str x := of_str uv
      refine ⟨x, e2, ?_, ?_⟩
      · rw [e1, sizeLine_eq]; omega
      · exact h2 _ F G1 α1 σ H1 Q (by omega) R1 fun G2 α2 H2 g2 a2 R2 => k G2 α2 H2 (g1.trans g2) (a1.trans a2) R2
  obtain ⟨ts, h1, h2⟩ := key h
  refine PE.wk (pe_joined h1) fun σ H Q ⟨F, G, α, R, k⟩ => h2 Str.empty F G α σ H _ ?_ R fun G1 α1 H1 g1 a1 R1 => k _ G1 α1 H1 g1 a1 R1 (.str _)
  have : Str.empty.length = 0 := rfl
  omega
/-! comprehensions that make data and leave what is owned -/
section
variable {X : Cx} {tg iter elt c : Expr} {S S1 S2 : DSt} {z : U} {ds es : List D} {pos : Pos} {T : Tgt} {scope : Scope}
theorem de_lcD (own : List (Str × Nat)) (f : D → D) (hc : X.calm = true) (hN : X.N.Nodup) (hi : DI X tg iter S ds S1) (ok : BlkOk X.N X.env.scope scope own) (hT : T.ins (own.map (·.2)) = true)
    (hg : ∀ (s : Shared) (H : Hp) (C : Addr) (cl : List (Str × Addr)) (fp : List Addr), TgOk (X.blk s H scope (compEnvC scope cl C X.env) fp) tg T)
    (h : ∀ d ∈ ds, ∃ S2 S3, asg T d ⟨wipeG S1.g (own.map (·.2)), S1.m⟩ = some S2 ∧ BE X scope elt S2 (.dat (f d)) S3 ∧ S3.m = S1.m) (e : ds.map f = es) (hz : ds.length ≤ 1000000) (hs : ∀ x, foldedSetIterable iter X.env x = pure x := by intro _; rfl) :
    DE X (.ListComp elt [⟨tg, iter, [], 0⟩] scope pos) S (.dat (.lst es)) S1 := by
  subst e
  exact de_lc hc hN hi ok hT hg (lc_map h) (.dl _) hz hs
theorem de_lcO (own : List (Str × Nat)) (f : D → D) (n : Nat) (hc : X.calm = true) (hN : X.N.Nodup) (hi : DI X tg iter S ds S1) (ok : BlkOk X.N X.env.scope scope own) (hT : T.ins (own.map (·.2)) = true)
    (hg : ∀ (s : Shared) (H : Hp) (C : Addr) (cl : List (Str × Addr)) (fp : List Addr), TgOk (X.blk s H scope (compEnvC scope cl C X.env) fp) tg T)
    (h : ∀ d ∈ ds, ∃ S2 S3, asg T d ⟨wipeG S1.g (own.map (·.2)), S1.m⟩ = some S2 ∧ BE X scope elt S2 (.dat (f d)) S3 ∧ S3.m = S1.m) (e : ds.map f = es) (hz : ds.length ≤ 1000000) (hn : n ≠ 0 := by decide) (hm : S1.m[n]? = some none := by rfl) (hs : ∀ x, foldedSetIterable iter X.env x = pure x := by intro _; rfl) :
    DE X (.ListComp elt [⟨tg, iter, [], 0⟩] scope pos) S (.own n) (setM S1 n (.lst es)) := by
  subst e
  exact de_lc hc hN hi ok hT hg (lc_map h) (.ow n _ hn hm) hz hs
theorem de_lcQ (own : List (Str × Nat)) (p : D → Bool) (f : D → D) (hc : X.calm = true) (hN : X.N.Nodup) (hi : DI X tg iter S ds S1) (ok : BlkOk X.N X.env.scope scope own) (hT : T.ins (own.map (·.2)) = true)
    (hg : ∀ (s : Shared) (H : Hp) (C : Addr) (cl : List (Str × Addr)) (fp : List Addr), TgOk (X.blk s H scope (compEnvC scope cl C X.env) fp) tg T)
    (h : ∀ d ∈ ds, ∃ S2 S3 S4, asg T d ⟨wipeG S1.g (own.map (·.2)), S1.m⟩ = some S2 ∧ BT X scope [c] S2 (p d) S3 ∧ S3.m = S1.m ∧ BE X scope elt S3 (.dat (f d)) S4 ∧ S4.m = S1.m) (e : (ds.filter p).map f = es) (hz : ds.length ≤ 1000000) (hs : ∀ x, foldedSetIterable iter X.env x = pure x := by intro _; rfl) :
    DE X (.ListComp elt [⟨tg, iter, [c], 0⟩] scope pos) S (.dat (.lst es)) S1 := by
  subst e
  exact de_lc hc hN hi ok hT hg (lc_filt h) (.dl _) hz hs
end
theorem mild.len {r : List Nat} {d : D} (h : mild r d = true) : (reprD d).length ≤ 15 * wB r + 13 := by
  obtain ⟨_, h2, h3, _⟩ := mild.ok r d h
  have := PyData.shown_le 13 (by decide) _ h3
  have : (13 + 2) * (toPy d).weight ≤ 15 * wB r := Nat.mul_le_mul (by decide) h2
  unfold reprD
  omega
theorem mild_tI {r : List Nat} {l : List Int} {n : Nat} (h : l.length ≤ n) (hb : ∀ i ∈ l, i.natAbs ≤ 1000) : mild (n :: r) (tI l) = true := by
  refine mild_tup (by rw [List.length_map]; exact h) fun d hd => ?_
  obtain ⟨i, hi, rfl⟩ := List.mem_map.mp hd
  exact mild_int (hb i hi)
theorem RoomG.u1 {k : Nat} {A : Around} (h : RoomG k A) : A.units + 1 < cLine := by have := h.rm.un; omega
theorem RoomG.u8 {k : Nat} {A : Around} (h : RoomG k A) : A.units + 8 < cLine := by have := h.rm.un; omega
theorem RoomG.u64 {k : Nat} {A : Around} (h : RoomG k A) : A.units + 64 < cLine := by have := h.rm.un; omega
theorem RoomG.u65 {k : Nat} {A : Around} (h : RoomG k A) : A.units + 65 < cLine := by have := h.rm.un; omega
theorem getD_lt {α : Type} {l : List α} {i : Nat} {d : α} (h : i < l.length) : l.getD i d = l[i] := by
  rw [List.getD_eq_getElem?_getD, List.getElem?_eq_getElem h]
  rfl
theorem RoomG.ofX {k j : Nat} {A : Around} (h : RoomG k A) (hj : j ≤ k) : RoomG j A := h.mono hj
/-- a dict comprehension over a list of data, given by its indices; the keys are different -/
theorem dc_map {X : Cx} {scope : Scope} {T : Tgt} {kx vx : Expr} {g : List (Option U)} {m : List (Option MO)} {ι : Type} (df : ι → D) (kf : ι → List Int) (vf : ι → D) : ∀ (js : List ι) (acc : Ps), (acc.map (·.1) ++ js.map kf).Nodup →
    (∀ j ∈ js, ∃ S1 S2 S3, asg T (df j) ⟨g, m⟩ = some S1 ∧ BE X scope kx S1 (.dat (tI (kf j))) S2 ∧ BE X scope vx S2 (.dat (vf j)) S3 ∧ S3.m = m) → DcR X scope T [] kx vx g (js.map df) m acc (acc ++ js.map fun j => (kf j, vf j)) m
  | [], acc, _, _ => by
    rw [List.map_nil, List.map_nil, List.append_nil]
    exact .nil
  | j :: js, acc, hn, h => by
    obtain ⟨S1, S2, S3, h1, h2, h3, h4⟩ := h j List.mem_cons_self
    have hn2 : kf j ∉ acc.map (·.1) := fun hm => (List.nodup_append.mp hn).2.2 _ hm _ List.mem_cons_self rfl
    refine .yes h1 bt_nil h2 h3 ?_
    rw [h4, put_new hn2]
    have t := dc_map df kf vf js (acc ++ [(kf j, vf j)]) (by rw [List.map_append, List.append_assoc]; exact hn) fun i hi => h i (List.mem_cons_of_mem _ hi)
    rw [List.append_assoc] at t
    exact t
theorem enum_zip {α : Type} (f : α → D) : ∀ (ls : List α) (k : Nat), enumFrom k (ls.map f) = (ls.zipIdx k).map fun p => .tup [.int (p.2 : Nat), f p.1]
  | [], _ => rfl
  | l :: ls, k => by
    rw [List.map_cons, List.zipIdx_cons, List.map_cons, ← enum_zip f ls (k + 1)]
    rfl
/-! a comprehension within a comprehension: the scope around it is named by where it stands -/
def cScope : Expr → Scope
  | .ListComp _ _ sc _ => sc
  | .DictComp _ _ _ sc _ => sc
  | _ => default
def exOf (sts : List Stmt) (i : Nat) : Expr := match sts.getD i (.Pass ⟨0, 0, 0, 0⟩) with
  | .Return (some e) _ => e
  | .Assign _ e _ => e
  | .Expr e _ => e
  | .If e _ _ _ => e
  | .While e _ _ _ => e
  | _ => .Constant .none 0 ⟨0, 0, 0, 0⟩
def bodyOf (sts : List Stmt) (i : Nat) : List Stmt := match sts.getD i (.Pass ⟨0, 0, 0, 0⟩) with
  | .For _ _ b _ _ => b
  | .While _ b _ _ => b
  | .If _ b _ _ => b
  | _ => []
/-- the scope of a comprehension in a block of scope sc -/
def inS (sc scope : Scope) : Scope := { kind := scope.kind, names := scope.names.map fun y => if (y.2 == .free && sc.kind == .function && sc.names.lookup y.1 == some .cell) = true then (y.1, .cell) else y, isGenerator := scope.isGenerator, isCoroutine := scope.isCoroutine, more := scope.more }
theorem blkOk_in {N : List Str} {sc scope : Scope} {own : List (Str × Nat)} (sc0 : Scope) (h : blkC N sc0 scope own = true) (e : sc = sc0 := by rfl) : BlkOk N sc scope own := e ▸ blkOk_by h
end DL
/-! DW: methods of lists, shorthands. -/
namespace DL
open PySem PySem.Spec PyProof.Rows L2
section
variable {X : Cx} {o e : Expr} {S S1 S2 : DSt} {u w : U} {ds es : List D} {d : D} {n : Nat} {apos cpos : Pos}
theorem de_append (ho : DE X o S (.own n) S1) (ha : DE X e S1 (.dat d) S2) (q0 : S1.m[n]? = some (some (.lst es))) (q : S2.m[n]? = some (some (.lst ds))) (hz : ds.length ≤ 1000000)
    (hbase : attributeBase o "append" X.env (eval o X.env) = eval o X.env := by rfl)
    (hfew : ((backTo cpos (starEach [e] X.env)).all (fun x => !x.1) && (backToKw cpos (keywordEach [] X.env)).all (fun x => x.1.isSome)
      && decide ([e].length + ([] : List Keyword).length + (if ([] : List Keyword).isEmpty then 0 else 1) < 30)) = true := by rfl)
    (hline : (apos.endLine == cpos.line) = true := by rfl) (hs : starEach [e] X.env = (false, eval e X.env) :: starEach [] X.env := by rfl) (hplain : (backTo cpos (starEach [] X.env)).any (·.1) = false := by rfl) :
    DE X (.Call (.Attribute o "append" apos) [e] [] cpos) S (.dat .non) (setM S2 n (.lst (ds ++ [d]))) :=
  de_bm PySem.F.plainAttrs_list PySem.F.slot_list_append PySem.F.type_list_append mt_append ho (tyr_lst (.own q0)) (da_cons ha da_nil hs) (md_append q hz) hbase hfew hline hs hplain
theorem de_popAt {i : Int} (ho : DE X o S (.own n) S1) (ha : DE X e S1 (.dat (.int i)) S2) (q0 : S1.m[n]? = some (some (.lst es))) (q : S2.m[n]? = some (some (.lst ds))) (h0 : 0 ≤ i) (hd : ds[i.toNat]? = some d) (hz : ds.length ≤ 1000000)
    (hbase : attributeBase o "pop" X.env (eval o X.env) = eval o X.env := by rfl)
    (hfew : ((backTo cpos (starEach [e] X.env)).all (fun x => !x.1) && (backToKw cpos (keywordEach [] X.env)).all (fun x => x.1.isSome)
      && decide ([e].length + ([] : List Keyword).length + (if ([] : List Keyword).isEmpty then 0 else 1) < 30)) = true := by rfl)
    (hline : (apos.endLine == cpos.line) = true := by rfl) (hs : starEach [e] X.env = (false, eval e X.env) :: starEach [] X.env := by rfl) (hplain : (backTo cpos (starEach [] X.env)).any (·.1) = false := by rfl) :
    DE X (.Call (.Attribute o "pop" apos) [e] [] cpos) S (.dat d) (setM S2 n (.lst (ds.eraseIdx i.toNat))) :=
  de_bm PySem.F.plainAttrs_list PySem.F.slot_list_pop PySem.F.type_list_pop mt_popAt ho (tyr_lst (.own q0)) (da_cons ha da_nil hs) (md_popAt q h0 hd hz) hbase hfew hline hs hplain
theorem de_extend (ho : DE X o S (.own n) S1) (ha : DE X e S1 w S2) (q0 : S1.m[n]? = some (some (.lst es))) {es' : List D} (q : S2.m[n]? = some (some (.lst ds))) (l : LU S2.m w es') (hz : ds.length + es'.length ≤ 1000000)
    (hbase : attributeBase o "extend" X.env (eval o X.env) = eval o X.env := by rfl)
    (hfew : ((backTo cpos (starEach [e] X.env)).all (fun x => !x.1) && (backToKw cpos (keywordEach [] X.env)).all (fun x => x.1.isSome)
      && decide ([e].length + ([] : List Keyword).length + (if ([] : List Keyword).isEmpty then 0 else 1) < 30)) = true := by rfl)
    (hline : (apos.endLine == cpos.line) = true := by rfl) (hs : starEach [e] X.env = (false, eval e X.env) :: starEach [] X.env := by rfl) (hplain : (backTo cpos (starEach [] X.env)).any (·.1) = false := by rfl) :
    DE X (.Call (.Attribute o "extend" apos) [e] [] cpos) S (.dat .non) (setM S2 n (.lst (ds ++ es'))) :=
  de_bm PySem.F.plainAttrs_list PySem.F.slot_list_extend PySem.F.type_list_extend mt_extend ho (tyr_lst (.own q0)) (da_cons ha da_nil hs) (md_extend q l hz) hbase hfew hline hs hplain
theorem de_clear (ho : DE X o S (.own n) S1) (q : S1.m[n]? = some (some (.lst ds))) (hbase : attributeBase o "clear" X.env (eval o X.env) = eval o X.env := by rfl) (hline : (apos.endLine == cpos.line) = true := by rfl) :
    DE X (.Call (.Attribute o "clear" apos) [] [] cpos) S (.dat .non) (setM S1 n (.lst [])) :=
  de_bm0 PySem.F.plainAttrs_list PySem.F.slot_list_clear PySem.F.type_list_clear mt_clear ho (tyr_lst (.own q)) (md_clear q) hbase hline
theorem de_index {j : Nat} {d' : D} (hu : X.A.units + 65 < cLine) (ho : DE X o S u S1) (ha : DE X e S1 (.dat d) S2) (l0 : LU S1.m u es) (l : LU S2.m u ds) (g1 : good 60 d = true) (g2 : good 60 (.lst ds) = true) (hj : ds[j]? = some d') (he : eqD d' d = true) (hno : ∀ m d'', m < j → ds[m]? = some d'' → eqD d'' d = false)
    (hbase : attributeBase o "index" X.env (eval o X.env) = eval o X.env := by rfl)
    (hfew : ((backTo cpos (starEach [e] X.env)).all (fun x => !x.1) && (backToKw cpos (keywordEach [] X.env)).all (fun x => x.1.isSome)
      && decide ([e].length + ([] : List Keyword).length + (if ([] : List Keyword).isEmpty then 0 else 1) < 30)) = true := by rfl)
    (hline : (apos.endLine == cpos.line) = true := by rfl) (hs : starEach [e] X.env = (false, eval e X.env) :: starEach [] X.env := by rfl) (hplain : (backTo cpos (starEach [] X.env)).any (·.1) = false := by rfl) :
    DE X (.Call (.Attribute o "index" apos) [e] [] cpos) S (.dat (.int j)) S2 :=
  de_bm PySem.F.plainAttrs_list PySem.F.slot_list_index PySem.F.type_list_index (mt_indexD hu) ho (tyr_lst l0) (da_cons ha da_nil hs) (md_index l g1 g2 hj he hno) hbase hfew hline hs hplain
/-- own != [] and the like -/
theorem eqD_nil (ds : List D) : eqD (.lst ds) (.lst []) = ds.isEmpty := by
  cases ds with
  | nil => rfl
  | cons d ds => simp [eqD, toPy, toPys, PyData.eqv, PyData.eqvAll]
theorem good_nil : good 60 (.lst []) = true := good_lst fun d h => nomatch h
theorem dt_neNil {pos p : Pos} (hu : X.A.units + 64 < cLine) (ha : DE X o S u S1) (h1 : View S1.m u (.lst ds)) (g1 : good 60 (.lst ds) = true) (hm : behindInMarks .NotEq (.List [] p) = false := by rfl) : DT X (.Compare o [.NotEq] [.List [] p] pos) S (!ds.isEmpty) S1 :=
  dt_to (dt_neD hu ha (de_lst da_nil (.dl _)) h1 (.dat _) g1 good_nil hm) (by rw [eqD_nil])
theorem dt_eqNil {pos p : Pos} (hu : X.A.units + 64 < cLine) (ha : DE X o S u S1) (h1 : View S1.m u (.lst ds)) (g1 : good 60 (.lst ds) = true) (hm : behindInMarks .Eq (.List [] p) = false := by rfl) : DT X (.Compare o [.Eq] [.List [] p] pos) S (ds.isEmpty) S1 :=
  dt_to (dt_eqD hu ha (de_lst da_nil (.dl _)) h1 (.dat _) g1 good_nil hm) (by rw [eqD_nil])
theorem good_tI {n : Nat} (l : List Int) (h : 1 ≤ n) : good n (tI l) = true := by
  obtain ⟨m, rfl⟩ : ∃ m, n = m + 1 := ⟨n - 1, by omega⟩
  refine good_tup fun d hd => ?_
  obtain ⟨i, _, rfl⟩ := List.mem_map.mp hd
  exact good_int
end
end DL
namespace DL
open PySem PySem.Spec PyProof.Rows L2
section
variable {X : Cx} {a b : Expr} {S S1 S2 : DSt} {u : U} {ps : Ps} {ns : List Int} {pos : Pos}
theorem dt_dnotin (hu : X.A.units + 1 < cLine) (ha : DE X a S (.dat (.tup (ns.map .int))) S1) (hb : DE X b S1 u S2) (q : DU S2.m u ps) (hm : behindInMarks .NotIn b = false := by rfl) : DT X (.Compare a [.NotIn] [b] pos) S (!(val ps ns).isSome) S2 :=
  PT.wk (pt_cmp (pc_dnotin hu ha hb) hm) fun σ H Q ⟨F, G, α, R, k⟩ => ⟨F, G, α, R, fun y G1 α1 H1 g1 a1 R1 uy => ⟨F, G1, α1, R1, fun x G2 α2 H2 g2 a2 R2 ux => by
    obtain ⟨c, o, rfl, h1, h2⟩ := dget_some R2 q ux (Dat.mono g2.1 _ _ uy)
    refine ⟨c, o, rfl, h1, ?_⟩
    rw [h2]
    exact ⟨_, rfl, k G2 α2 H2 (g1.trans g2) (a1.trans a2) R2⟩⟩⟩
end
section
variable {X : Cx} {a : Expr} {S S1 : DSt} {u : U} {pos pos' : Pos} {j : Nat}
theorem dt_isNon (ha : DE X a S u S1) : DT X (.Compare a [.Is] [.Constant .none j pos'] pos) S (isNon u) S1 :=
  PT.wk (pt_cmp (pc_isN ha) rfl) fun σ H Q ⟨F, G, α, R, k⟩ => ⟨F, G, α, R, fun v G1 α1 H1 g a R1 uv => ⟨_, rfl, by rw [non_iff uv]; exact k G1 α1 H1 g a R1⟩⟩
theorem dt_notNon (ha : DE X a S u S1) : DT X (.Compare a [.IsNot] [.Constant .none j pos'] pos) S (!isNon u) S1 :=
  PT.wk (pt_cmp (pc_notN ha) rfl) fun σ H Q ⟨F, G, α, R, k⟩ => ⟨F, G, α, R, fun v G1 α1 H1 g a R1 uv => ⟨_, rfl, by rw [non_iff uv]; exact k G1 α1 H1 g a R1⟩⟩
end
end DL
/-! DBF: breadth first, the words in order. No program here. -/
namespace BF
/-- words over the digits below k, as numbers: shorter ones first, then in the order of their digits -/
def num (k : Nat) (u : List Nat) : Nat := u.foldl (fun a l => a * k + (l + 1)) 0
theorem num_snoc (k : Nat) (u : List Nat) (l : Nat) : num k (u ++ [l]) = num k u * k + (l + 1) := by
  unfold num
  rw [List.foldl_append]
  rfl
theorem num_lt {k : Nat} {u v : List Nat} {l l' : Nat} (h : num k u < num k v) (hl : l < k) : num k (u ++ [l]) < num k (v ++ [l']) := by
  rw [num_snoc, num_snoc]
  have : (num k u + 1) * k ≤ num k v * k := Nat.mul_le_mul_right k h
  rw [Nat.add_mul, Nat.one_mul] at this
  omega
theorem num_le {k : Nat} {u v : List Nat} {l : Nat} (h : num k u ≤ num k v) : num k (u ++ [l]) ≤ num k (v ++ [l]) := by
  rw [num_snoc, num_snoc]
  have := Nat.mul_le_mul_right k h
  omega
theorem num_up {k : Nat} (u : List Nat) {l : Nat} (hl : l < k) : num k u < num k (u ++ [l]) := by
  rw [num_snoc]
  have : num k u * 1 ≤ num k u * k := Nat.mul_le_mul_left _ (by omega)
  omega
theorem num_inj {k : Nat} : ∀ (n : Nat) (u v : List Nat), u.length ≤ n → (∀ x ∈ u, x < k) → (∀ x ∈ v, x < k) → num k u = num k v → u = v := by
  intro n
  induction n with
  | zero =>
    intro u v hn hu hv h
    have : u = [] := List.eq_nil_of_length_eq_zero (by omega)
    subst this
    rcases List.eq_nil_or_concat v with rfl | ⟨v0, l, rfl⟩
    · rfl
    · rw [List.concat_eq_append] at h
      rw [num_snoc] at h
      have : num k [] = 0 := rfl
      omega
  | succ n ih =>
    intro u v hn hu hv h
    rcases List.eq_nil_or_concat u with rfl | ⟨u0, l, rfl⟩
    · rcases List.eq_nil_or_concat v with rfl | ⟨v0, l, rfl⟩
      · rfl
      · rw [List.concat_eq_append, num_snoc] at h
        have : num k [] = 0 := rfl
        omega
    · rcases List.eq_nil_or_concat v with rfl | ⟨v0, l', rfl⟩
      · rw [List.concat_eq_append, num_snoc] at h
        have : num k [] = 0 := rfl
        omega
      · rw [List.concat_eq_append] at hn hu h ⊢
        rw [List.concat_eq_append] at hv h ⊢
        rw [num_snoc, num_snoc] at h
        have hl : l < k := hu l (by simp)
        have hl' : l' < k := hv l' (by simp)
        have e1 : num k u0 = num k v0 := by
          rcases Nat.lt_trichotomy (num k u0) (num k v0) with q | q | q
          · have : (num k u0 + 1) * k ≤ num k v0 * k := Nat.mul_le_mul_right k q
            rw [Nat.add_mul, Nat.one_mul] at this
            omega
          · exact q
          · have : (num k v0 + 1) * k ≤ num k u0 * k := Nat.mul_le_mul_right k q
            rw [Nat.add_mul, Nat.one_mul] at this
            omega
        have e2 : l = l' := by
          rw [e1] at h
          omega
        have := ih u0 v0 (by rw [List.length_append] at hn; simp at hn; omega) (fun x hx => hu x (List.mem_append_left _ hx)) (fun x hx => hv x (List.mem_append_left _ hx)) e1
        rw [this, e2]
section
variable {ν : Type} [DecidableEq ν] (step : ν → Nat → ν) (s0 : ν) (k : Nat)
def run (u : List Nat) : ν := u.foldl step s0
theorem run_snoc (u : List Nat) (l : Nat) : run step s0 (u ++ [l]) = step (run step s0 u) l := by
  unfold run
  rw [List.foldl_append]
  rfl
/-- what has been looked at: the first i words with all digits, the i-th with the digits below l -/
def done (i l j l' : Nat) : Prop := j < i ∨ (j = i ∧ l' < l)
structure Inv (L : List (List Nat)) (i l : Nat) : Prop where
  root : L[0]? = some []
  srt : L.Pairwise fun u v => num k u < num k v
  dist : (L.map (run step s0)).Nodup
  dig : ∀ u ∈ L, ∀ x ∈ u, x < k
  clo : ∀ j l', l' < k → done i l j l' → ∀ u, L[j]? = some u → ∃ v ∈ L, run step s0 v = run step s0 (u ++ [l']) ∧ num k v ≤ num k (u ++ [l'])
  frm : ∀ v ∈ L, v = [] ∨ ∃ j u l', done i l j l' ∧ L[j]? = some u ∧ l' < k ∧ v = u ++ [l']
  le : i ≤ L.length
  lk : l ≤ k
theorem inv_start : Inv step s0 k [[]] 0 0 where
  root := rfl
  srt := List.pairwise_singleton _ _
  dist := by simp
  dig := fun u hu x hx => by
    rw [List.mem_singleton.mp hu] at hx
    cases hx
  clo := fun j l' _ h => by
    rcases h with h | ⟨_, h⟩ <;> omega
  frm := fun v hv => .inl (List.mem_singleton.mp hv)
  le := Nat.zero_le _
  lk := Nat.zero_le _
variable {step s0 k} {L : List (List Nat)} {i l : Nat} {u : List Nat}
theorem Inv.old (I : Inv step s0 k L i l) (hu : L[i]? = some u) (hl : l < k) (h : run step s0 (u ++ [l]) ∈ L.map (run step s0)) : Inv step s0 k L i (l + 1) := by
  refine ⟨I.root, I.srt, I.dist, I.dig, fun j l' hl' hd v hv => ?_, fun v hv => ?_, I.le, hl⟩
  · by_cases e : j = i ∧ l' = l
    · obtain ⟨rfl, rfl⟩ := e
      rw [hu] at hv
      cases hv
      obtain ⟨v, hv, hr⟩ := List.mem_map.mp h
      refine ⟨v, hv, hr, ?_⟩
      rcases I.frm v hv with rfl | ⟨j2, u2, l2, hd2, h2, h3, rfl⟩
      · exact Nat.zero_le _
      · rcases hd2 with hd2 | ⟨rfl, hd2⟩
        · have : num k u2 < num k u := by
            have hj := (List.getElem?_eq_some_iff.mp h2)
            have hi := (List.getElem?_eq_some_iff.mp hu)
            obtain ⟨a1, b1⟩ := hj
            obtain ⟨a2, b2⟩ := hi
            rw [← b1, ← b2]
            exact List.pairwise_iff_getElem.mp I.srt _ _ a1 a2 hd2
          exact Nat.le_of_lt (num_lt this h3)
        · rw [hu] at h2
          cases h2
          rw [num_snoc, num_snoc]
          omega
    · exact I.clo j l' hl' (by rcases hd with h | ⟨h1, h2⟩; exact .inl h; exact .inr ⟨h1, by omega⟩) v hv
  · rcases I.frm v hv with h | ⟨j, u2, l', hd, h2, h3, h4⟩
    · exact .inl h
    · exact .inr ⟨j, u2, l', by rcases hd with h | ⟨h1, h2⟩; exact .inl h; exact .inr ⟨h1, by omega⟩, h2, h3, h4⟩
theorem Inv.new (I : Inv step s0 k L i l) (hu : L[i]? = some u) (hl : l < k) (h : run step s0 (u ++ [l]) ∉ L.map (run step s0)) : Inv step s0 k (L ++ [u ++ [l]]) i (l + 1) := by
  have hi := (List.getElem?_eq_some_iff.mp hu).1
  have up : ∀ {j : Nat} {v : List Nat}, L[j]? = some v → (L ++ [u ++ [l]])[j]? = some v := fun {j v} e => by
    rw [List.getElem?_append_left (List.getElem?_eq_some_iff.mp e).1]
    exact e
  have um := List.mem_of_getElem? hu
  have lt : ∀ v ∈ L, num k v < num k (u ++ [l]) := fun v hv => by
    rcases I.frm v hv with rfl | ⟨j2, u2, l2, hd2, h2, h3, rfl⟩
    · exact Nat.lt_of_le_of_lt (Nat.zero_le _) (num_up u hl)
    · rcases hd2 with hd2 | ⟨rfl, hd2⟩
      · have : num k u2 < num k u := by
          obtain ⟨a1, b1⟩ := (List.getElem?_eq_some_iff.mp h2)
          obtain ⟨a2, b2⟩ := (List.getElem?_eq_some_iff.mp hu)
          rw [← b1, ← b2]
          exact List.pairwise_iff_getElem.mp I.srt _ _ a1 a2 hd2
        exact num_lt this h3
      · rw [hu] at h2
        cases h2
        rw [num_snoc, num_snoc]
        omega
  refine ⟨up I.root, ?_, ?_, ?_, fun j l' hl' hd v hv => ?_, fun v hv => ?_, ?_, hl⟩
  · refine List.pairwise_append.mpr ⟨I.srt, List.pairwise_singleton _ _, fun v hv x hx => ?_⟩
    rw [List.mem_singleton.mp hx]
    exact lt v hv
  · rw [List.map_append]
    refine List.nodup_append.mpr ⟨I.dist, by simp, fun a ha b hb => ?_⟩
    simp at hb
    subst hb
    exact fun e => h (e ▸ ha)
  · intro v hv x hx
    rcases List.mem_append.mp hv with q | q
    · exact I.dig v q x hx
    · rw [List.mem_singleton.mp q] at hx
      rcases List.mem_append.mp hx with q | q
      · exact I.dig u um x q
      · rw [List.mem_singleton.mp q]
        exact hl
  · by_cases e : j = i ∧ l' = l
    · obtain ⟨rfl, rfl⟩ := e
      rw [up hu] at hv
      cases hv
      exact ⟨_, List.mem_append_right _ (List.mem_singleton.mpr rfl), rfl, Nat.le_refl _⟩
    · have hd' : done i l j l' := by rcases hd with h | ⟨h1, h2⟩; exact .inl h; exact .inr ⟨h1, by omega⟩
      have hj : j < L.length := by rcases hd with h | ⟨h1, h2⟩ <;> omega
      rw [List.getElem?_append_left hj] at hv
      obtain ⟨x, h1, h2⟩ := I.clo j l' hl' hd' v hv
      exact ⟨x, List.mem_append_left _ h1, h2⟩
  · rcases List.mem_append.mp hv with q | q
    · rcases I.frm v q with h | ⟨j, u2, l', hd, h2, h3, h4⟩
      · exact .inl h
      · exact .inr ⟨j, u2, l', by rcases hd with h | ⟨h1, h2⟩; exact .inl h; exact .inr ⟨h1, by omega⟩, up h2, h3, h4⟩
    · exact .inr ⟨i, u, l, .inr ⟨rfl, by omega⟩, up hu, hl, List.mem_singleton.mp q⟩
  · rw [List.length_append]
    have := I.le
    omega
theorem Inv.turn (I : Inv step s0 k L i k) (hi : i < L.length) : Inv step s0 k L (i + 1) 0 := by
  have to : ∀ {j l' : Nat}, l' < k → done (i + 1) 0 j l' → done i k j l' := fun {j l'} h hd => by
    rcases hd with q | ⟨_, q⟩
    · by_cases e : j = i
      · exact .inr ⟨e, h⟩
      · exact .inl (by omega)
    · omega
  have fro : ∀ {j l' : Nat}, done i k j l' → done (i + 1) 0 j l' := fun {j l'} hd => by
    rcases hd with q | ⟨q, _⟩
    · exact .inl (by omega)
    · exact .inl (by omega)
  exact ⟨I.root, I.srt, I.dist, I.dig, fun j l' h hd => I.clo j l' h (to h hd), fun v hv => by
    rcases I.frm v hv with h | ⟨j, u2, l', hd, h2⟩
    · exact .inl h
    · exact .inr ⟨j, u2, l', fro hd, h2⟩, hi, Nat.zero_le _⟩
/-- every word is met by a word of the list that is not later, or the word under the pointer is not later -/
theorem Inv.meets (I : Inv step s0 k L i 0) : ∀ (n : Nat) (u : List Nat), u.length ≤ n → (∀ x ∈ u, x < k) → (∃ v ∈ L, run step s0 v = run step s0 u ∧ num k v ≤ num k u) ∨ ∃ v, L[i]? = some v ∧ num k v ≤ num k u := by
  intro n
  induction n with
  | zero =>
    intro u hn hu
    have : u = [] := List.eq_nil_of_length_eq_zero (by omega)
    subst this
    exact .inl ⟨[], List.mem_of_getElem? I.root, rfl, Nat.le_refl _⟩
  | succ n ih =>
    intro u hn hu
    rcases List.eq_nil_or_concat u with rfl | ⟨u0, l, rfl⟩
    · exact .inl ⟨[], List.mem_of_getElem? I.root, rfl, Nat.le_refl _⟩
    · rw [List.concat_eq_append] at hn hu ⊢
      have hl : l < k := hu l (by simp)
      rcases ih u0 (by rw [List.length_append] at hn; simp at hn; omega) (fun x hx => hu x (List.mem_append_left _ hx)) with ⟨v, hv, h1, h2⟩ | ⟨v, hv, h2⟩
      · obtain ⟨j, hj⟩ := List.getElem?_of_mem hv
        by_cases e : j < i
        · obtain ⟨x, h3, h4, h5⟩ := I.clo j l hl (.inl e) v hj
          refine .inl ⟨x, h3, ?_, Nat.le_trans h5 (num_le h2)⟩
          rw [h4, run_snoc, run_snoc, h1]
        · have hjl := (List.getElem?_eq_some_iff.mp hj).1
          have hil : i < L.length := by omega
          refine .inr ⟨L[i], List.getElem?_eq_getElem hil, ?_⟩
          have : num k L[i] ≤ num k v := by
            by_cases e2 : j = i
            · subst e2
              rw [List.getElem?_eq_getElem hil] at hj
              cases hj
              exact Nat.le_refl _
            · obtain ⟨a1, b1⟩ := List.getElem?_eq_some_iff.mp hj
              rw [← b1]
              exact Nat.le_of_lt (List.pairwise_iff_getElem.mp I.srt _ _ hil a1 (by omega))
          exact Nat.le_trans this (Nat.le_trans h2 (Nat.le_of_lt (num_up u0 hl)))
      · exact .inr ⟨v, hv, Nat.le_trans h2 (Nat.le_of_lt (num_up u0 hl))⟩
/-- the least word that P holds of -/
structure Least (step : ν → Nat → ν) (s0 : ν) (k : Nat) (p : ν → Bool) (u : List Nat) : Prop where
  holds : p (run step s0 u) = true
  dig : ∀ x ∈ u, x < k
  least : ∀ v, (∀ x ∈ v, x < k) → p (run step s0 v) = true → num k u ≤ num k v
/-- the word under the pointer is the first that P holds of -/
theorem Inv.first (I : Inv step s0 k L i 0) {p : ν → Bool} (hu : L[i]? = some u) (hp : p (run step s0 u) = true) (hno : ∀ j v, j < i → L[j]? = some v → p (run step s0 v) = false) : Least step s0 k p u := by
  refine ⟨hp, I.dig u (List.mem_of_getElem? hu), fun v hv h => ?_⟩
  rcases I.meets v.length v (Nat.le_refl _) hv with ⟨x, hx, h1, h2⟩ | ⟨x, hx, h2⟩
  · obtain ⟨j, hj⟩ := List.getElem?_of_mem hx
    have hji : i ≤ j := by
      refine Nat.le_of_not_lt fun e => ?_
      have := hno j x e hj
      rw [h1, h] at this
      cases this
    by_cases e : j = i
    · subst e
      rw [hu] at hj
      cases hj
      exact h2
    · obtain ⟨a1, b1⟩ := List.getElem?_eq_some_iff.mp hj
      obtain ⟨a2, b2⟩ := List.getElem?_eq_some_iff.mp hu
      have := List.pairwise_iff_getElem.mp I.srt _ _ a2 a1 (by omega)
      rw [b1, b2] at this
      omega
  · rw [hu] at hx
    cases hx
    exact h2
/-- nothing is left to look at, P holds of none: of no word -/
theorem Inv.never (I : Inv step s0 k L L.length 0) {p : ν → Bool} (hno : ∀ v ∈ L, p (run step s0 v) = false) (v : List Nat) (hv : ∀ x ∈ v, x < k) : p (run step s0 v) = false := by
  rcases I.meets v.length v (Nat.le_refl _) hv with ⟨x, hx, h1, h2⟩ | ⟨x, hx, h2⟩
  · rw [← h1]
    exact hno x hx
  · rw [List.getElem?_eq_none (Nat.le_refl _)] at hx
    cases hx
/-- at the end of the search: the first of the list that P holds of -/
theorem Inv.find (I : Inv step s0 k L L.length 0) {p : ν → Bool} (h : L.find? (fun u => p (run step s0 u)) = some u) : Least step s0 k p u := by
  have hm := List.mem_of_find?_eq_some h
  have hp : p (run step s0 u) = true := by simpa using List.find?_some h
  refine ⟨hp, I.dig u hm, fun v hv q => ?_⟩
  rcases I.meets v.length v (Nat.le_refl _) hv with ⟨x, hx, h1, h2⟩ | ⟨x, hx, h2⟩
  · have hpx : p (run step s0 x) = true := by rw [h1]; exact q
    obtain ⟨as, bs, e, hno⟩ := (List.find?_eq_some_iff_append.mp h).2
    have := I.srt
    rw [e] at this hx
    rcases List.mem_append.mp hx with q2 | q2
    · have := hno x q2
      simp [hpx] at this
    · rcases List.mem_cons.mp q2 with rfl | q3
      · exact h2
      · have h3 := (List.pairwise_append.mp this).2.1
        have h4 := (List.pairwise_cons.mp h3).1 x q3
        omega
  · rw [List.getElem?_eq_none (Nat.le_refl _)] at hx
    cases hx
theorem Least.same {ν' : Type} {step' : ν' → Nat → ν'} {s0' : ν'} {p : ν → Bool} {p' : ν' → Bool} {u v : List Nat} (a : Least step s0 k p u) (b : Least step' s0' k p' v) (h : ∀ w, (∀ x ∈ w, x < k) → p (run step s0 w) = p' (run step' s0' w)) : u = v := by
  refine num_inj u.length u v (Nat.le_refl _) a.dig b.dig (Nat.le_antisymm (a.least v b.dig ?_) (b.least u a.dig ?_))
  · rw [h v b.dig]
    exact b.holds
  · rw [← h u a.dig]
    exact a.holds
end
/-! ### the search itself -/
section
variable {ν : Type} [DecidableEq ν] (step : ν → Nat → ν) (s0 : ν) (k : Nat)
def add1 (L : List (List Nat)) (u : List Nat) (l : Nat) : List (List Nat) := if run step s0 (u ++ [l]) ∈ L.map (run step s0) then L else L ++ [u ++ [l]]
def extF (u : List Nat) : Nat → Nat → List (List Nat) → List (List Nat)
  | 0, _, L => L
  | r + 1, l, L => extF u r (l + 1) (add1 step s0 L u l)
def bfs : Nat → List (List Nat) → Nat → List (List Nat)
  | 0, L, _ => L
  | f + 1, L, i => match L[i]? with
    | none => L
    | some u => bfs f (extF step s0 u k 0 L) (i + 1)
variable {step s0 k} {L : List (List Nat)} {i l : Nat} {u : List Nat}
theorem Inv.add1 (I : Inv step s0 k L i l) (hu : L[i]? = some u) (hl : l < k) : Inv step s0 k (add1 step s0 L u l) i (l + 1) := by
  unfold BF.add1
  split
  · exact I.old hu hl (by assumption)
  · exact I.new hu hl (by assumption)
theorem add1_at (hu : L[i]? = some u) : (add1 step s0 L u l)[i]? = some u := by
  unfold add1
  split
  · exact hu
  · rw [List.getElem?_append_left (List.getElem?_eq_some_iff.mp hu).1]
    exact hu
theorem Inv.ext : ∀ (r l : Nat) (L : List (List Nat)), Inv step s0 k L i l → L[i]? = some u → l + r = k → Inv step s0 k (extF step s0 u r l L) i k ∧ (extF step s0 u r l L)[i]? = some u
  | 0, l, L, I, hu, h => by
    have : l = k := by omega
    subst this
    exact ⟨I, hu⟩
  | r + 1, l, L, I, hu, h => Inv.ext r (l + 1) _ (I.add1 hu (by omega)) (add1_at hu) (by omega)
theorem bfs_inv (B : Nat) (card : ∀ L i l, Inv step s0 k L i l → L.length ≤ B) : ∀ (f : Nat) (L : List (List Nat)) (i : Nat), Inv step s0 k L i 0 → B + 1 ≤ f + i → Inv step s0 k (bfs step s0 k f L i) (bfs step s0 k f L i).length 0
  | 0, L, i, I, h => by
    have := card _ _ _ I
    have := I.le
    omega
  | f + 1, L, i, I, h => by
    unfold bfs
    cases e : L[i]? with
    | none =>
      have h1 := List.getElem?_eq_none_iff.mp e
      have h2 := I.le
      have h3 : L.length = i := by omega
      show Inv step s0 k L L.length 0
      rw [h3]
      exact I
    | some u =>
      obtain ⟨I2, hu2⟩ := Inv.ext (u := u) k 0 L I e (by omega)
      exact bfs_inv B card f _ (i + 1) (I2.turn (List.getElem?_eq_some_iff.mp hu2).1) (by omega)
theorem bfs_end {f : Nat} (h : L.length ≤ i) : bfs step s0 k f L i = L := by
  cases f with
  | zero => rfl
  | succ f =>
    unfold bfs
    rw [List.getElem?_eq_none h]
end
section
variable {ν : Type} [DecidableEq ν] {step : ν → Nat → ν} {s0 : ν} {k : Nat} {L : List (List Nat)} {i l : Nat} {u : List Nat}
theorem add1_old (h : run step s0 (u ++ [l]) ∈ L.map (run step s0)) : add1 step s0 L u l = L := if_pos h
theorem add1_new (h : run step s0 (u ++ [l]) ∉ L.map (run step s0)) : add1 step s0 L u l = L ++ [u ++ [l]] := if_neg h
theorem Inv.len (I : Inv step s0 k L i l) : ∀ (j : Nat) (u : List Nat), L[j]? = some u → u.length ≤ j := by
  intro j
  induction j using Nat.strongRecOn with
  | ind j ih =>
    intro u hu
    rcases I.frm u (List.mem_of_getElem? hu) with rfl | ⟨j2, u2, l2, _, h2, h3, rfl⟩
    · exact Nat.zero_le _
    · have hlt := num_up (k := k) u2 h3
      have hj : j2 < j := by
        obtain ⟨a1, b1⟩ := List.getElem?_eq_some_iff.mp h2
        obtain ⟨a2, b2⟩ := List.getElem?_eq_some_iff.mp hu
        refine Nat.lt_of_not_le fun q => ?_
        by_cases e : j = j2
        · subst e
          rw [h2] at hu
          have := Option.some.inj hu
          rw [← this] at hlt
          omega
        · have := List.pairwise_iff_getElem.mp I.srt _ _ a2 a1 (by omega)
          rw [b1, b2] at this
          omega
      have := ih j2 hj u2 h2
      rw [List.length_append]
      simp
      omega
end
end BF
/-! DEX: loops by their index, conditions that change nothing, list(range(n)). -/
namespace DL
open PySem PySem.Spec PyProof.Rows L2
section
variable {X : Cx} {e c a b d tg iter : Expr} {S S1 S2 : DSt} {u z : U} {pos : Pos} {st : Stmt} {sts : List Stmt} {Φ Ψ : Out → Prop}
/-- a loop by the index of its turn -/
theorem ex_forI {T : Tgt} {body : List Stmt} {ds : List D} (Inv : Nat → DSt → Prop) (hc : X.calm = true) (hi : DI X tg iter S ds S1) (hg : TgOk X tg T) (h0 : Inv 0 S1)
    (step : ∀ i d S, ds[i]? = some d → Inv i S → ∃ S2, asg T d S = some S2 ∧ Ex X body S2 (turnE X sts Φ (Inv (i + 1)))) (fin : ∀ S', Inv ds.length S' → Ex X sts S' Φ)
    (hp : PassesOwn (model X.prog X.w) X.A X.env X.xe := by exact PassesOwn.never) (hs : ∀ x, foldedSetIterable iter X.env x = pure x := by intro _; rfl) : Ex X (.For tg iter body [] pos :: sts) S Φ := by
  refine ex_for (T := T) (fun rest S => ∃ i, rest = ds.drop i ∧ i ≤ ds.length ∧ Inv i S) hc hi hg ⟨0, rfl, Nat.zero_le _, h0⟩ ?_ ?_ hp hs
  · rintro d rest S ⟨i, h1, h2, h3⟩
    have hl : i < ds.length := by
      have := congrArg List.length h1
      simp at this
      omega
    have e1 := List.drop_eq_getElem_cons hl
    rw [← h1] at e1
    injection e1 with e2 e3
    obtain ⟨S2, h4, h5⟩ := step i d S (by rw [List.getElem?_eq_getElem hl, e2]) h3
    refine ⟨S2, h4, h5.mono fun o => ?_⟩
    cases o with
    | nx S => exact fun q => ⟨i + 1, e3, hl, q⟩
    | ct S => exact fun q => ⟨i + 1, e3, hl, q⟩
    | bk S => exact fun q => q
    | rt u S => exact fun q => q
  · rintro S ⟨i, h1, h2, h3⟩
    have : i = ds.length := by
      have := congrArg List.length h1
      simp at this
      omega
    exact fin S (this ▸ h3)
theorem rngN_at {n i : Nat} {d : D} (h : (rngN n)[i]? = some d) : i < n ∧ d = .int (i : Nat) := by
  unfold rngN at h
  rw [List.getElem?_map] at h
  by_cases hi : i < n
  · rw [List.getElem?_range hi] at h
    exact ⟨hi, (Option.some.inj h).symm⟩
  · rw [List.getElem?_eq_none (by simp; omega)] at h
    cases h
theorem rngN_len (n : Nat) : (rngN n).length = n := by simp [rngN]
/-- for i in range(n) -/
theorem ex_forN {T : Tgt} {body : List Stmt} {n : Nat} (Inv : Nat → DSt → Prop) (hc : X.calm = true) (hi : DI X tg iter S (rngN n) S1) (hg : TgOk X tg T) (h0 : Inv 0 S1)
    (step : ∀ i S, i < n → Inv i S → ∃ S2, asg T (.int (i : Nat)) S = some S2 ∧ Ex X body S2 (turnE X sts Φ (Inv (i + 1)))) (fin : ∀ S', Inv n S' → Ex X sts S' Φ)
    (hp : PassesOwn (model X.prog X.w) X.A X.env X.xe := by exact PassesOwn.never) (hs : ∀ x, foldedSetIterable iter X.env x = pure x := by intro _; rfl) : Ex X (.For tg iter body [] pos :: sts) S Φ := by
  refine ex_forI (T := T) Inv hc hi hg h0 (fun i d S hd h => ?_) (fun S' h => ?_) hp hs
  · obtain ⟨h1, rfl⟩ := rngN_at hd
    exact step i S h1 h
  · rw [rngN_len] at h
    exact fin S' h
/-! conditions that change nothing -/
variable {x y v : Bool}
theorem dt_orB (ha : DT X a S x S) (hb : DT X b S y S) : DT X (.BoolOp .Or [a, b] pos) S (x || y) S := by
  cases x with
  | true => exact DW.dt (dw_orT ha)
  | false => exact DW.dt (dw_orF ha (dw_or1 hb))
theorem dt_andB (ha : DT X a S x S) (hb : DT X b S y S) : DT X (.BoolOp .And [a, b] pos) S (x && y) S := by
  cases x with
  | true => exact DW.dt (dw_andT ha (dw_and1 hb))
  | false => exact DW.dt (dw_andF ha)
/-- the second part is asked only where the first is false -/
theorem dt_orL (ha : DT X a S x S) (hb : x = false → DT X b S y S) : DT X (.BoolOp .Or [a, b] pos) S (x || y) S := by
  cases x with
  | true => exact DW.dt (dw_orT ha)
  | false => exact DW.dt (dw_orF ha (dw_or1 (hb rfl)))
theorem dt_andL (ha : DT X a S x S) (hb : x = true → DT X b S y S) : DT X (.BoolOp .And [a, b] pos) S (x && y) S := by
  cases x with
  | true => exact DW.dt (dw_andT ha (dw_and1 (hb rfl)))
  | false => exact DW.dt (dw_andF ha)
theorem dt_orL3 (ha : DT X a S x S) (hb : x = false → DT X b S y S) (hc : x = false → y = false → DT X d S v S) : DT X (.BoolOp .Or [a, b, d] pos) S (x || y || v) S := by
  cases x with
  | true => exact DW.dt (dw_orT ha)
  | false =>
    cases y with
    | true => exact DW.dt (dw_orF ha (dw_orT (hb rfl)))
    | false => exact DW.dt (dw_orF ha (dw_orF (hb rfl) (dw_or1 (hc rfl rfl))))
theorem de_andL (ha : DE X a S (.dat (.bl x)) S) (hb : x = true → DE X b S (.dat (.bl y)) S) : DE X (.BoolOp .And [a, b] pos) S (.dat (.bl (x && y))) S := by
  cases x with
  | true => exact de_andT ha (de_one (hb rfl))
  | false => exact de_andF ha
theorem de_orL (ha : DE X a S (.dat (.bl x)) S) (hb : x = false → DE X b S (.dat (.bl y)) S) : DE X (.BoolOp .Or [a, b] pos) S (.dat (.bl (x || y))) S := by
  cases x with
  | true => exact de_orT ha
  | false => exact de_orF ha (de_one (hb rfl))
/-- a test whose outcome is told by a case -/
theorem ex_ifB {a b : List Stmt} (hc : DT X c S x S1) (ht : x = true → Ex X a S1 (thenE X sts Φ)) (hf : x = false → Ex X b S1 (thenE X sts Φ)) : Ex X (.If c a b pos :: sts) S Φ := by
  cases x with
  | true => exact ex_ifT hc (ht rfl)
  | false => exact ex_ifF hc (hf rfl)
theorem de_ifB (hc : DT X c S x S1) (ha : x = true → DE X a S1 u S2) (hb : x = false → DE X b S1 u S2) : DE X (.IfExp c a b pos) S u S2 := by
  cases x with
  | true => exact de_ifT hc (ha rfl)
  | false => exact de_ifF hc (hb rfl)
end
/-! list(range(n)) -/
section
variable {X : Cx} {a : Expr} {S S1 S2 : DSt} {z : U} {pos pos2 p p2 : Pos} {n : Nat}
theorem dats_rg {K : PySem.W.Frag} {G : Hp} (n : Nat) : Dats K G (rngN n) (rgV 0 n) := by
  unfold rngN rgV
  have e : ((n : Int) - 0).toNat = n := by omega
  rw [e]
  generalize List.range n = l
  induction l with
  | nil => exact .nil
  | cons i l ih =>
    refine .cons ?_ ih
    show Dat K G (.int (i : Nat)) (.int (0 + (i : Nat)))
    rw [Int.zero_add]
    exact .int _
theorem de_listRg (hc : X.calm = true) (hm : X.mg "list" = none) (hm2 : X.mg "range" = none) (ha : DE X a S (.dat (.int n)) S1) (hn : n ≤ 1000000) (hz : Made S1 (.lst (rngN n)) z S2) (hg : Gl X "list" := by rfl) (hg2 : Gl X "range" := by rfl)
    (he2 : starEach [a] X.env = (false, eval a X.env) :: starEach [] X.env := by rfl) (he : starEach [.Call (.Name "range" p2) [a] [] pos2] X.env = (false, eval (.Call (.Name "range" p2) [a] [] pos2) X.env) :: starEach [] X.env := by rfl) : DE X (.Call (.Name "list" p) [.Call (.Name "range" p2) [a] [] pos2] [] pos) S z S2 :=
  PE.wk (pe_listRg hc hg hm (prg_1 hg2 hm2 ha he2) he) fun σ H Q ⟨F, G, α, R, k⟩ => ⟨F, G, α, R, fun v G1 α1 H1 g1 a1 R1 uv => ⟨n, of_int uv, ⟨by omega, by omega, by omega, by omega, by omega⟩, fun q hq => by
    obtain ⟨G4, α4, g4, a4, R4, u4⟩ := R1.made hq (mo := .lst (rngN n)) ⟨_, rfl, dats_rg n⟩ hz
    exact k _ G4 α4 _ (g1.trans g4) (a1.trans a4) R4 u4⟩⟩
end
end DL
namespace DL
open PySem PySem.Spec PyProof.Rows L2
section
variable {X : Cx}
theorem tg_three {i j l : Nat} {x y z : Str} {px py pz pt : Pos} {k : Nat} (hc : X.calm = true) (hN : X.N.Nodup) (hi : X.N[i]? = some x := by rfl) (hj : X.N[j]? = some y := by rfl) (hl : X.N[l]? = some z := by rfl) (hx : L2.Loc X.env.scope x := by first | exact Or.inl rfl | exact Or.inr rfl) (hy : L2.Loc X.env.scope y := by first | exact Or.inl rfl | exact Or.inr rfl) (hz : L2.Loc X.env.scope z := by first | exact Or.inl rfl | exact Or.inr rfl)
    (fx : X.fn x = true ∨ X.env.scope.names.lookup x = some .local := by first | exact Or.inl rfl | exact Or.inr rfl) (fy : X.fn y = true ∨ X.env.scope.names.lookup y = some .local := by first | exact Or.inl rfl | exact Or.inr rfl) (fz : X.fn z = true ∨ X.env.scope.names.lookup z = some .local := by first | exact Or.inl rfl | exact Or.inr rfl)
    (h1 : (assignEach [.Name x px, .Name y py, .Name z pz] X.env).length = 3 := by rfl) (h2 : (assignEach [.Name x px, .Name y py, .Name z pz] X.env).findIdx? (·.1) = none := by rfl)
    (h3 : (assignEach [.Name x px, .Name y py, .Name z pz] X.env).map (·.2) = assign (.Name x px) X.env :: (assignEach [.Name y py, .Name z pz] X.env).map (·.2) := by rfl) (h4 : (assignEach [.Name y py, .Name z pz] X.env).map (·.2) = assign (.Name y py) X.env :: (assignEach [.Name z pz] X.env).map (·.2) := by rfl) (h5 : (assignEach [.Name z pz] X.env).map (·.2) = assign (.Name z pz) X.env :: (assignEach [] X.env).map (·.2) := by rfl) : TgOk X (.Tuple [.Name x px, .Name y py, .Name z pz] k pt) (.tup [i, j, l]) :=
  pg_tup hc (pgs_cons (pg_name hN hi hx fx) (pgs_cons (pg_name hN hj hy fy) (pgs_cons (pg_name hN hl hz fz) pgs_nil h5) h4) h3) h1 h2
theorem dt_inD {a b : Expr} {S S1 S2 : DSt} {u w : U} {d : D} {ds : List D} {pos : Pos} (hu : X.A.units + 65 < cLine) (ha : DE X a S u S1) (hb : DE X b S1 w S2) (h1 : View S2.m u d) (h2 : View S2.m w (.lst ds)) (g1 : good 60 d = true) (g2 : good 60 (.lst ds) = true) (hm : behindInMarks .In b = false := by rfl) : DT X (.Compare a [.In] [b] pos) S (ds.any fun z => eqD z d) S2 := dt_cmp (op_inD hu) ha hb (opd_inD h1 h2 g1 g2) hm
theorem dt_notInD {a b : Expr} {S S1 S2 : DSt} {u w : U} {d : D} {ds : List D} {pos : Pos} (hu : X.A.units + 65 < cLine) (ha : DE X a S u S1) (hb : DE X b S1 w S2) (h1 : View S2.m u d) (h2 : View S2.m w (.lst ds)) (g1 : good 60 d = true) (g2 : good 60 (.lst ds) = true) (hm : behindInMarks .NotIn b = false := by rfl) : DT X (.Compare a [.NotIn] [b] pos) S (!ds.any fun z => eqD z d) S2 := dt_cmp (op_notInD hu) ha hb (opd_notInD h1 h2 g1 g2) hm
theorem dt_notInT {a b : Expr} {S S1 S2 : DSt} {u w : U} {d : D} {ds : List D} {pos : Pos} (hu : X.A.units + 65 < cLine) (ha : DE X a S u S1) (hb : DE X b S1 w S2) (h1 : View S2.m u d) (h2 : View S2.m w (.tup ds)) (g1 : good 60 d = true) (g2 : good 60 (.tup ds) = true) (hm : behindInMarks .NotIn b = false := by rfl) : DT X (.Compare a [.NotIn] [b] pos) S (!ds.any fun z => eqD z d) S2 := dt_cmp (op_notInT hu) ha hb (opd_notInT h1 h2 g1 g2) hm
end
end DL
namespace DL
open PySem PySem.Spec PyProof.Rows L2
theorem de_neg {X : Cx} {a : Expr} {S S1 : DSt} {i : Int} {pos : Pos} (h : DE X a S (.dat (.int i)) S1) : DE X (.UnaryOp .USub a pos) S (.dat (.int (-i))) S1 :=
  PE.wk (pe_un un_neg h) fun σ H Q ⟨F, G, α, R, k⟩ => ⟨F, G, α, R, fun v G1 α1 H1 g1 a1 R1 uv => ⟨i, of_int uv, k _ G1 α1 H1 g1 a1 R1 (.int _)⟩⟩
theorem cutA_mem {β : Type} {xs : List β} {lo hi : Option Int} {x : β} (h : x ∈ cutA xs lo hi) : x ∈ xs := List.mem_of_mem_drop (List.mem_of_mem_take h)
theorem cutA_le {β : Type} {xs : List β} {lo hi : Option Int} : (cutA xs lo hi).length ≤ xs.length := by
  unfold cutA
  rw [List.length_take, List.length_drop]
  omega
theorem cutA_map {β γ : Type} (f : β → γ) (xs : List β) (lo hi : Option Int) : cutA (xs.map f) lo hi = (cutA xs lo hi).map f := by
  unfold cutA
  rw [List.length_map, ← List.map_drop, ← List.map_take]
def binR : Expr → Expr
  | .BinOp _ _ b _ => b
  | e => e
def binL : Expr → Expr
  | .BinOp a _ _ _ => a
  | e => e
def firstE : Expr → Expr
  | .List (e :: _) _ => e
  | .Tuple (e :: _) _ _ => e
  | e => e
end DL
namespace DL
open PySem PySem.Spec PyProof.Rows L2
def KwOk (x : Str) (st : Stmt) (ks ps : List Str) (ix : List Nat) : Prop := ∀ (kV doc pm : Value) (an : Option Addr) (cdv ct : Value) (us : List Value), us.length = ks.length → bindArgs (PySem.W.fnOf x x (defArgs st) (defBody st) (defScope st) .none kV doc pm an cdv ct) ⟨[], ks.zip us⟩ = pure (ps.zip (pick ix us))
section
variable {X : Cx} {j k : Nat} {x : Str} {st : Stmt} {ps : List Str} {p pos : Pos} {S S1 S2 : DSt} {us : List U} {ds : List D} {z : U} {r : Res}
/-- a def called by the names of its parameters -/
theorem de_cPK {R0 : List D → Res → Prop} {kws : List Keyword} {ks : List Str} {ix : List Nat} (C : CalE X.prog X.w X.K X.mg X.base j x st ps (SpP X.K R0)) (hr : RoomG k X.A) (ha : DKw X kws S us S1) (hR : R0 (pick ix ds) r) (hm : MadeR S1 r z S2) (kw : KwOk x st ks ps ix) (hjk : j ≤ k := by decide)
    (hu : AllD us ds := by repeat constructor) (hix : ix.length = ps.length := by rfl) (hkn : kws.length = ks.length := by rfl) (hg : Gl X x := by rfl) (hdb : (x == ("__debug__" : Str)) = false := by decide)
    (hall : (backToKw pos (keywordEach kws X.env)).all (·.1.isSome) = true := by rfl) (hks : (backToKw pos (keywordEach kws X.env)).filterMap (·.1) = ks := by rfl)
    (hpl : ((backTo pos (starEach [] X.env)).any (·.1) || (backToKw pos (keywordEach kws X.env)).any (·.1.isNone)) = false := by rfl) (hev : ((backToKw pos (keywordEach kws X.env)).map (·.2)).length = ks.length := by rfl) (hul : us.length = ks.length := by rfl) : DE X (.Call (.Name x p) [] kws pos) S z S2 := by
  obtain ⟨f, fd, C⟩ := C
  refine de_callPK C (hr.mono hjk) ha hR hm (fun s ws hl => ?_) hu hix hkn hg hdb hall hks hpl hev hul
  obtain ⟨oc, od, kV, doc, pm, an, cdv, ct, osl, rfl, lk, hcd⟩ := C.fn.ex
  exact .of_eq (kw kV doc pm an cdv ct ws hl)
variable {a b : Expr} {u w : U} {y : Str}
theorem dt_neS {x y : Str} (ha : DE X a S (.dat (.str x)) S1) (hb : DE X b S1 (.dat (.str y)) S2) (hm : behindInMarks .NotEq b = false := by rfl) : DT X (.Compare a [.NotEq] [b] pos) S (!decide (x = y)) S2 := dt_cmp op_ne ha hb opd_neS hm
theorem dt_eqS {x y : Str} (ha : DE X a S (.dat (.str x)) S1) (hb : DE X b S1 (.dat (.str y)) S2) (hm : behindInMarks .Eq b = false := by rfl) : DT X (.Compare a [.Eq] [b] pos) S (decide (x = y)) S2 := dt_cmp op_eq ha hb opd_eqS hm
end
theorem exact_ints (l : List Int) : exacts (l.map D.int) = true := exacts_all.mpr fun d hd => by
  obtain ⟨i, _, rfl⟩ := List.mem_map.mp hd
  simp [exact]
theorem eqD_ints (a b : List Int) : eqD (lI a) (lI b) = decide (a = b) := by
  have ea : ∀ l : List Int, exact (lI l) = true := fun l => by
    simp only [exact]
    exact exact_ints l
  have inj : ∀ {a b : List Int}, lI a = lI b → a = b := fun {a b} h => by
    injection h with h
    induction a generalizing b with
    | nil => cases b with
      | nil => rfl
      | cons y b => cases h
    | cons x a ih => cases b with
      | nil => cases h
      | cons y b =>
        injection h with h1 h2
        injection h1 with h1
        rw [h1, ih h2]
  by_cases h : a = b
  · subst h
    rw [decide_eq_true rfl]
    exact (eqD_iff _ _ (ea a) (ea a)).mpr rfl
  · rw [decide_eq_false h]
    cases e : eqD (lI a) (lI b) with
    | false => rfl
    | true => exact absurd (inj ((eqD_iff _ _ (ea a) (ea b)).mp e)) h
theorem good_ints (l : List Int) : good 60 (lI l) = true := good_lst fun d hd => by
  obtain ⟨i, _, rfl⟩ := List.mem_map.mp hd
  exact good_int
theorem mild_ints {r : List Nat} {l : List Int} {n : Nat} (h : l.length ≤ n) (hb : ∀ i ∈ l, i.natAbs ≤ 1000) : mild (n :: r) (lI l) = true := by
  refine mild_lst (by rw [List.length_map]; exact h) fun d hd => ?_
  obtain ⟨i, hi, rfl⟩ := List.mem_map.mp hd
  exact mild_int (hb i hi)
end DL
/-! DTS: set(t) of a tuple of tuples of ints. -/
namespace DL
open PySem PySem.Spec PyProof.Rows L2
section
variable {P : Program} {w : World} {A : Around} {E : Value → Shared → Prop} {s : Shared}
set_option maxHeartbeats 3200000 in
theorem set_of_tupT {l : Addr} {items : Array Value} (ks : List (Addr × List Int)) {Q : Value → Shared → Prop} (nohot : A.handled = none) (ist : s.heap.IsTuple l items) (itl : items.toList = ks.map fun p => Value.ref p.1)
    (keys : ∀ p ∈ ks, IsT P w s.heap p.2 p.1) (few : ks.length < 64) (room : A.units + 3 < cLine)
    (k : ∀ (h' : Heap) (tk : Nat) L es ep t, SetTR P w h' s.heap.objs.size L es ep t → Got ks ks.length L → (∀ b o, s.heap.get? b = some o → h'.get? b = some o) → Q (.ref s.heap.objs.size) { s with heap := h', toks := tk }) :
    wpAny (model P w) A (call (.type "set") [.ref l]) Q E s := by
  have sz : items.size = ks.length := by
    have q := congrArg List.length itl
    simpa using q
  obtain ⟨cm, tl, hmro⟩ := F.called_set.mro
  have v1 := F.called_set.made
  have v2 := F.called_set.sub
  refine wpAny_call (codeAny_of_tree ?_)
  show wpAny _ _ (callAny (.type "set") _) _ _ _
  refine wpAny_pure ⟨Code.quiet_builtin _ (by decide +kernel), codeAny_builtin F.entry_type_call ?_⟩
  rw [Around.under_plain (weight_type_call_type "set" [.ref l] []) rfl]
  have v3 := F.called_set.notType
  have v4 := F.called_set.canCreate
  have v5 := F.typeCall_set_1 (.ref l)
  repeat (any_goals (first | assumption | wp_step))
  refine codeAny_mono (code_set_led1 (.ref l) (E := E) (Q₁ := fun obj s₁ => obj = .ref s.heap.objs.size ∧ s₁ = { s with heap := s.heap.push (newSet w) }) ⟨rfl, rfl⟩) fun r s₁ hr => ?_
  cases r with
  | error er => exact hr
  | ok fl =>
    cases fl with
    | ret obj =>
      obtain ⟨rfl, rfl⟩ := hr
      have at0 : (s.heap.push (newSet w)).get? s.heap.objs.size = some (newSet w) := Heap.get?_push_size _ rfl
      have ty0 : Shared.TypeIs { s with heap := s.heap.push (newSet w) } (.ref s.heap.objs.size) "set" := ⟨_, at0, rfl⟩
      have v6 := F.called_set.init.lookup
      have v7 := F.called_set.init.bind (.ref s.heap.objs.size)
      repeat (any_goals (first | assumption | wp_step))
      refine codeAny_mono (codeAny_call_builtin (R := wants (fun r s₂ => r = .none ∧ ∃ h' tk L es ep t, s₂ = { s with heap := h', toks := tk } ∧ SetTR P w h' s.heap.objs.size L es ep t ∧ Got ks ks.length L ∧ (∀ b o, s.heap.get? b = some o → h'.get? b = some o)) E)
        F.called_set.init.plain F.entry_set_init (check_set_init_1 ty0 ?_)) fun r₂ s₂ hr₂ => ?_
      · obtain ⟨⟨oc, od, ot, os⟩, e0, e1, n, e2⟩ := ist
        simp only at e1 e2
        subst e1 e2
        have e3 : (s.heap.push (newSet w)).get? l = some { cls := .type "tuple", dict := od, data := .seq items n, slots := os } := Heap.get?_push_of_some _ e0
        have v8 := F.sub_tuple_set
        have v9 := F.sub_tuple_frozenset
        have va : (Value.type "tuple" == Value.type "dict") = false := by decide
        have ist1 : (s.heap.push (newSet w)).IsTuple l items := ⟨_, e3, rfl, n, rfl⟩
        unfold Builtin.«set.__init__» noKeywords Builtin.Frozenset.updateFrom
        generalize hPI : pyIter = PI
        wp_walk
        subst hPI
        refine wpAny_pyIter_tuple ist1 (wpAny_bind (wpAny_runValue ?_))
        have lt0 : l < s.heap.objs.size := Heap.lt_size e0
        have ne1 : l ≠ (s.heap.push (newSet w)).objs.size := by rw [Heap.size_push]; exact Nat.ne_of_lt (Nat.lt_succ_of_lt lt0)
        have out1 : s.heap.objs.size ∉ [(s.heap.push (newSet w)).objs.size, l] := by
          rw [Heap.size_push]
          simp only [List.mem_cons, List.not_mem_nil, or_false, not_or]
          exact ⟨Nat.ne_of_lt (Nat.lt_succ_self _), Nat.ne_of_gt lt0⟩
        have vals : ∀ (i : Nat) (v : Value), items[i]? = some v → ∃ p, ks[i]? = some p ∧ v = .ref p.1 := fun i v hv => by
          have q : (ks.map fun p => Value.ref p.1)[i]? = some v := by rw [← itl, Array.getElem?_toList]; exact hv
          rw [List.getElem?_map] at q
          obtain ⟨p, h1, h2⟩ := Option.map_eq_some_iff.mp q
          exact ⟨p, h1, h2.symm⟩
        have gone : ∀ b, s.heap.objs.size ≤ b → s.heap.get? b = none := fun b hb => by
          cases q : s.heap.get? b with
          | none => rfl
          | some ob => exact absurd (Heap.lt_size q) (Nat.not_lt.mpr hb)
        refine set_update_tups ((Walks.tuple (by simp [nohot]) _ l ne1 items).toS) s.heap.objs.size out1 ks sz few vals s.heap keys (gone _ (Nat.le_refl _)) (fun b hb => gone b (by rw [List.mem_singleton.mp hb, Heap.size_push]; omega)) room (items.size - 0) 0 _ (by omega) (Nat.zero_le _)
          ⟨⟨_, Heap.get?_push_size _ rfl, rfl, rfl⟩, ist1.push _⟩ (fun b ob e => Heap.get?_push_of_some _ (Heap.get?_push_of_some _ e)) ⟨[], #[], 0, _, setTR_fresh (Heap.get?_push_of_some _ at0), Got.zero ks⟩ ?_
        intro s' L es ep t mv hS' got kept
        obtain ⟨h', g2, d', tk', os'⟩ := s'
        obtain rfl : g2 = s.gens := mv.gens
        obtain rfl : d' = s.drawn := mv.drawn
        obtain rfl : os' = s.os := mv.os
        show wpAny _ _ _ _ _ _
        refine wpAny_pure ?_
        show wpAny _ _ (ret Value.none) _ _ _
        exact wpAny_pure ⟨rfl, h', tk', L, es, ep, t, rfl, hS', sz ▸ got, kept⟩
      · cases r₂ with
        | error er => exact hr₂
        | ok fl2 =>
          cases fl2 with
          | ret rv =>
            obtain ⟨rfl, h', tk, L, es, ep, t, rfl, hS', got, hk'⟩ := hr₂
            repeat (any_goals (first | assumption | wp_step))
            exact k _ _ _ _ _ _ hS' got hk'
          | _ => exact hr₂.elim
    | _ => exact hr.elim
end
end DL
namespace DL
open PySem PySem.Spec PyProof.Rows L2
section
variable {X : Cx} {a : Expr} {S S1 : DSt} {pos pos2 p p2 : Pos}
def rSetTT (K : PySem.W.Frag) (P : Program) (w : World) : List V → Hp → VK → Prop := fun xs H Q => ∃ (t : Addr) (ks : List (Addr × List Int)), xs = [V.ref t] ∧ SqT K H t (ks.map fun p => V.ref p.1) ∧ (∀ p ∈ ks, SqT K H p.1 (p.2.map V.int)) ∧ ks.length < 64 ∧
  ∀ q L, H q = none → (∀ p ∈ L, p ∈ ks) → (∀ p ∈ ks, p.2 ∈ L.map (·.2)) → Q (.ref q) (upd H q (SetTO P w q L))
theorem cr_setTT (hc : X.calm = true) (hu : X.A.units + 64 < cLine) : CallR X (.type "set") (rSetTT X.K X.prog X.w) := by
  rintro pins s σ H xs us Q I r ⟨t, ks, rfl, ht, hk, hf, q⟩
  rw [Vals.ref1 r]
  obtain ⟨its, rv, it, _⟩ := I.tuple ht
  refine set_of_tupT (P := X.prog) (w := X.w) ks (I.ok.hd hc) it (by simpa using refs_of_vals rv) (fun p hp => I.isT (hk p hp)) hf (by omega) fun h' tk L es ep tt R g kp => ?_
  exact ⟨.ref s.heap.objs.size, _, I.laid (t' := tk) kp (Nat.le_refl _) (setTO_new R.t0), rfl, q _ L (I.hok.fresh (Nat.le_refl _)) (fun p hp => List.mem_of_mem_take (g.sub p hp)) fun p hp => g.all p (by rw [List.take_length]; exact hp)⟩
theorem tup_keys {K : PySem.W.Frag} {H : Hp} : ∀ {xs : List (List Int)} {ws : List V}, Dats K H (xs.map fun n => .tup (n.map .int)) ws → ∃ ks : List (Addr × List Int), ws = ks.map (fun p => V.ref p.1) ∧ ks.map (·.2) = xs ∧ ∀ p ∈ ks, H p.1 = some (.tup (p.2.map V.int))
  | [], ws, h => ⟨[], of_dats0 h, rfl, fun p hp => nomatch hp⟩
  | x :: xs, ws, h => by
    obtain ⟨v, r, rfl, d1, d2⟩ := of_dats h
    obtain ⟨ks, e1, e2, e3⟩ := tup_keys d2
    obtain ⟨t, ys, rfl, d3, d4⟩ := of_tup d1
    rw [dats_ints d4] at d3
    refine ⟨(t, x) :: ks, by rw [e1]; rfl, by rw [List.map_cons, e2], fun p hp => ?_⟩
    rcases List.mem_cons.mp hp with z | z
    · rw [z]; exact d3
    · exact e3 p z
/-- len(set(t)) of a tuple -/
theorem de_lenSTt {xs : List (List Int)} (hc : X.calm = true) (hu : X.A.units + 64 < cLine) (hm : X.mg "len" = none) (hm2 : X.mg "set" = none) (ha : DE X a S (.dat (.tup (xs.map fun n => .tup (n.map .int)))) S1) (few : xs.length < 64) (hg : Gl X "len" := by rfl) (hg2 : Gl X "set" := by rfl)
    (he : starEach [a] X.env = (false, eval a X.env) :: starEach [] X.env := by rfl) (he2 : starEach [.Call (.Name "set" p2) [a] [] pos2] X.env = (false, eval (.Call (.Name "set" p2) [a] [] pos2) X.env) :: starEach [] X.env := by rfl) {n : Nat} (hn : ∀ ys : List (List Int), ys.Nodup → (∀ k, k ∈ ys ↔ k ∈ xs) → ys.length = n) :
    DE X (.Call (.Name "len" p) [.Call (.Name "set" p2) [a] [] pos2] [] pos) S (.dat (.int n)) S1 :=
  PE.wk (pe_callB call_lenST hg hm boot_len (pa_cons (pe_callTy (cr_setTT hc hu) hg2 hm2 PyProof.Rows.boot_set (da_cons ha da_nil he) (by decide) (by decide) he rfl) pa_nil he2) (by decide) (by decide) he2 rfl)
    fun σ H Q ⟨F, G, α, R, k⟩ => ⟨F, G, α, R, fun vs G1 α1 H1 g1 a1 R1 hv => by
      obtain ⟨v, r, rfl, h1, h2⟩ := hv
      have e : r = [] := h2
      subst e
      obtain ⟨c, ws, rfl, h3, h4⟩ := of_tup (show Dat X.K G1 (.tup _) v from h1)
      have h3 := R1.fG _ _ h3
      obtain ⟨ks, e1, e2, e3⟩ := tup_keys (h4.mono R1.fG)
      rw [e1] at h3
      refine ⟨c, ks, rfl, .of h3, fun p hp => .of (e3 p hp), by rw [← List.length_map (f := fun p : Addr × List Int => p.2), e2]; exact few, fun p L hp sub all => ⟨p, L, rfl, upd_same, fun q hq => .of ?_, fun nd => ?_⟩⟩
      · have := e3 q (sub q hq)
        rw [upd_ne (ne_of_none this hp)]
        exact this
      · have hl := hn (L.map (·.2)) nd fun k => ⟨fun hk => ?_, fun hk => ?_⟩
        · rw [List.length_map] at hl
          rw [hl]
          exact k _ G1 α1 _ g1 a1 (R1.extra hp) (.int _)
        · obtain ⟨q, hq, e⟩ := List.mem_map.mp hk
          rw [← e2, ← e]
          exact List.mem_map.mpr ⟨q, sub q hq, rfl⟩
        · rw [← e2] at hk
          obtain ⟨q, hq, e⟩ := List.mem_map.mp hk
          rw [← e]
          exact all q hq⟩
end
end DL
/-! DRE: repr of None, of a tuple that holds an empty dict. -/
namespace DL
open PySem PySem.Spec PyProof.Rows L2
section
variable {X : Cx} {a : Expr} {S S1 : DSt} {pos p : Pos}
theorem call_reprN : CallR X (.builtin "repr") (fun xs H Q => xs = [.non] ∧ Q (.str "None") H) := by
  rintro pins s σ H xs us Q I r ⟨rfl, q⟩
  obtain ⟨u, rfl, rx⟩ := vals1 r
  cases rx
  exact PySem.P.repr_of_none ⟨.str _, H, I.tok _, ⟨_, rfl⟩, q⟩
theorem de_reprN (hm : X.mg "repr" = none) (ha : DE X a S (.dat .non) S1) (hg : Gl X "repr" := by rfl) (he : starEach [a] X.env = (false, eval a X.env) :: starEach [] X.env := by rfl) : DE X (.Call (.Name "repr" p) [a] [] pos) S (.dat (.str "None")) S1 :=
  de_callB call_reprN hm PyProof.Rows.boot_repr (da_cons ha da_nil he) (fun F G α σ H vs Q R hvs k => by
    obtain ⟨v, r', rfl, h1, h2⟩ := hvs
    have e : r' = [] := h2
    subst e
    have e2 : v = .non := of_non h1
    exact ⟨by rw [e2], k _ G α H .refl .refl R (.str _)⟩) hg (by decide) (by decide) he
def pyE : PyData := .tuple [.dict [], .int 0]
def rReprE : List V → Hp → VK → Prop := fun xs H Q => ∃ p c, xs = [.ref p] ∧ H p = some (.tup [.ref c, .int 0]) ∧ Rd H c (.dT []) ∧ Q (.str pyE.shown) H
theorem call_reprE (hg : X.A.guards = some []) (hu : X.A.units + 64 < cLine) : CallR X (.builtin "repr") rReprE := by
  rintro pins s σ H xs us Q J r ⟨p, c, rfl, hp, hc, q⟩
  obtain ⟨v1, rfl, rx⟩ := vals1 r
  cases rx
  obtain ⟨its, rv, it, _⟩ := J.tuple (.of hp)
  obtain ⟨_, ns, xs', kt, o2, es, ep, g1, g2, g3, g4, _⟩ := dt_rd J.hok hc
  cases kt
  cases rv with
  | cons h1 rv =>
    cases rv with
    | cons h2 rv =>
      cases rv
      cases h1
      obtain ⟨t, rfl⟩ := h2
      obtain ⟨o, h3, h4, n, h5⟩ := it
      have es0 : es.toList = [] := by simpa using g4
      have rd : Reads s.heap (.ref p) pyE ((c :: [] ++ []) ++ ([] ++ [])) := by
        refine .tuple h3 h4 h5 (.cons (.dict g1 g2.1 g3 ?_ ?_) (.cons (.int _ _) .nil))
        · rw [es0]; exact .nil
        · rw [es0]; exact .nil
      refine repr_of_reads' rd (by decide) (fun _ hm => ?_) hg ?_ (fun _ _ e => e) (fun h' u tk hk => ⟨.str pyE.shown, H, J.kept (t' := tk) hk, ⟨u, rfl⟩, q⟩) (by decide)
      · simp at hm
        rw [← hm] at ns
        simp at ns
      · have : pyE.depth = 2 := by decide
        omega
theorem de_reprE (hgd : X.A.guards = some []) (hu : X.A.units + 64 < cLine) (hm : X.mg "repr" = none) (ha : DE X a S (.dat (.tup [.dic true [] [], .int 0])) S1) (hg : Gl X "repr" := by rfl) (he : starEach [a] X.env = (false, eval a X.env) :: starEach [] X.env := by rfl) : DE X (.Call (.Name "repr" p) [a] [] pos) S (.dat (.str pyE.shown)) S1 :=
  de_callB (call_reprE hgd hu) hm PyProof.Rows.boot_repr (da_cons ha da_nil he) (fun F G α σ H vs Q R hvs k => by
    obtain ⟨v, r', rfl, h1, h2⟩ := hvs
    have e : r' = [] := h2
    subst e
    obtain ⟨q, ws, rfl, h3, h4⟩ := of_tup (show Dat X.K G (.tup _) v from h1)
    obtain ⟨w1, r1, rfl, d1, d2⟩ := of_dats h4
    obtain ⟨w2, r2, rfl, d3, d4⟩ := of_dats d2
    have e3 := of_dats0 d4
    subst e3
    have e4 := of_int d3
    subst e4
    obtain ⟨c, vs, rfl, ⟨kvs, h5, h6, h7⟩, h8⟩ := of_dic d1
    have e5 : kvs = [] := by cases kvs with | nil => rfl | cons x xs => cases h6
    subst e5
    refine ⟨q, c, rfl, R.fG _ _ h3, ?_, k _ G α H .refl .refl R (.str _)⟩
    rcases h5 with h5 | ⟨o, h5⟩
    · exact .inl (R.fG _ _ h5)
    · exact .inr ⟨o, R.fG _ _ h5⟩) hg (by decide) (by decide) he
end
end DL
/-! DHD: the head of a law whose def keeps a promise where no repr is under way; facts of the top by a check of one's own. -/
namespace DL
open PySem PySem.Spec PyProof.Rows L2
/-- the law's call behind the top: what may be tracked is the script alone -/
theorem law_callG {P : Program} {w : World} {K : PySem.W.Frag} {mg mb : Str → Option Value} {k : Nat} {fa a : Addr} {fd : FuncData} {x : Str} {sp : SpV} {s₁ : Shared} {vs : List Value} {ns : List Int}
    (kin : K.In s₁.heap) (gns : s₁.heap.Ns mainGlobals mg) (bns : s₁.heap.Ns builtinsNs mb) (boot : ∀ x : Str, x ≠ "__name__" → mb x = bootBuiltins x) (lim : s₁.heap.NoLimit) (noGens : s₁.gens = #[])
    (ha : s₁.heap.get? a = some { cls := .type "list", data := .seq vs.toArray }) (hi : IntsAre vs ns) (hl : ns.length ≤ sizeLine) (hr : Room k callerA)
    (F : ∀ base : Heap, K.In base → base.Ns mainGlobals mg → FnG P w K mg base k fa fd [x] sp) (binds : ∀ (s : Shared) (u : Value), BindsTo s fd ⟨[u], []⟩ [(x, u)])
    (hsp : ∀ H : Hp, SqL K H a (ns.map V.int) → sp [.ref a] H fun v _ => v = .bl true) :
    codeAny (model P w) callerA (.call (.ref fa) ⟨[.ref a], []⟩) (fun r s' => r = .ok (.ret (.bool true)) ∧ OldK s₁.heap s'.heap ∧ s'.os = s₁.os ∧ AllBare s'.gens) s₁ := by
  have rv : Vals (ns.map V.int) vs := vals_ints hi
  have few : (ns.map V.int).length ≤ sizeLine := by rw [List.length_map]; exact hl
  obtain ⟨H, seq, only⟩ : ∃ H : Hp, SqL K H a (ns.map V.int) ∧ ∀ b u, H b = some u → b = a ∧ K.lookup a = none ∧ ∃ o, u = .frz o (.lst (ns.map V.int)) ∧ s₁.heap.get? a = some o := by
    cases hk : K.lookup a with
    | some o =>
      have e := kin a o hk
      rw [ha] at e
      injection e with e
      subst e
      exact ⟨fun _ => none, .inr ⟨_, vs.toArray, _, hk, rfl, rfl, rfl, by rw [List.size_toArray, hi.length]; exact hl, rv⟩, fun _ _ e => nomatch e⟩
    | none =>
      refine ⟨fun b => if b = a then some (.frz { cls := .type "list", data := .seq vs.toArray } (.lst (ns.map V.int))) else none, .inl (.inr ⟨_, if_pos rfl⟩), fun b u e => ?_⟩
      dsimp only at e
      by_cases hb : b = a
      · rw [if_pos hb] at e
        exact ⟨hb, rfl, _, (Option.some.inj e).symm, ha⟩
      · rw [if_neg hb] at e
        cases e
  have stays : ∀ {b : Addr} {o : Obj}, s₁.heap.get? b = some o → (b = a → o ≠ { cls := .type "list", data := .seq vs.toArray } ∨ K.lookup a ≠ none) → (hidT s₁.heap H).get? b = some o := fun {b o} e hn => by
    refine hidT_get e ?_
    cases q : H b with
    | none => rfl
    | some u =>
      obtain ⟨rfl, q1, _⟩ := only b u q
      rw [ha] at e
      rcases hn rfl with q2 | q2
      · exact absurd (Option.some.inj e).symm q2
      · exact absurd q1 q2
  have names : ∀ {b : Addr} {m : Str → Option Value}, s₁.heap.Ns b m → (hidT s₁.heap H).Ns b m := fun {b m} ⟨o, es, ep, e, d, r⟩ => ⟨o, es, ep, stays e (fun _ => .inl fun q => by rw [q] at d; cases d), d, r⟩
  have kin2 : K.In (hidT s₁.heap H) := fun b o e => stays (kin b o e) fun q => .inr (by rw [← q]; exact fun z => by rw [z] at e; cases e)
  have hok : HOk P w H s₁.heap := fun b u e => by
    obtain ⟨rfl, _, o, rfl, e2⟩ := only b u e
    rw [ha] at e2
    injection e2 with e2
    subst e2
    exact ⟨ha, few, vs, _, rv, ha⟩
  have modl : Mod K mg (hidT s₁.heap H) := ⟨kin2, names gns, ⟨mb, names bns, boot⟩, let ⟨mc, h1, h2⟩ := lim; ⟨mc, names h1, h2⟩⟩
  have env : Env0 P w K mg (hidT s₁.heap H) callerA [] s₁ H := ⟨rfl, modl, fun _ _ e => of_hidT e, Nat.le_of_eq (hidT_size _ _), trivial, (fun b hb => nomatch hb), hok, .of_eq noGens⟩
  refine codeAny_mono ((F _ kin2 (names gns)).run callerA [] s₁ H ⟨[.ref a], []⟩ [.ref a] [.ref a] _ hr rfl env (binds s₁ (.ref a)) (.cons rfl .nil) (hsp H seq)) fun r s' h => ?_
  match r, h with
  | .ok (.ret u), ⟨v, H', os, bare, un, hok', rel, q⟩ =>
    have q : v = .bl true := q
    subst q
    obtain rfl : u = Value.bool true := rel
    refine ⟨rfl, OldK.of_keep fun b o e => ?_, os, bare⟩
    cases qb : H b with
    | none => exact un.keep b o e qb (fun z => nomatch z) (fun z => nomatch z)
    | some u =>
      obtain ⟨rfl, _, o2, rfl, e2⟩ := only b u qb
      rw [e] at e2
      injection e2 with e2
      subst e2
      exact (hok' b _ (un.frzs b _ _ qb)).1
theorem walk_ofG {l : PySem.W.OpenLaw} {n k : Nat} {q : Program} {loose : List Str} {XP : (Str → Option Value) → Heap → Prop} {YP : World → Heap → Prop} {d : DefRec} {x : Str}
    (hn : l.most = some n) (hn2 : n ≤ sizeLine) (hdf : d.params.defaults = []) (hr : Room k callerA)
    (F : ∀ (w : World) (mg : Str → Option Value) (fa : Addr) (h : Heap), YP w h → h.Ns mainGlobals mg → mg d.name = some (.ref fa) →
      ∃ (K : PySem.W.Frag) (fd : FuncData) (sp : SpV), K.In h ∧ (∀ (s : Shared) (u : Value), BindsTo s fd ⟨[u], []⟩ [(x, u)]) ∧
        (∀ (H : Hp) (a : Addr) (ns : List Int), ns.length ≤ n → SqL K H a (ns.map V.int) → sp [.ref a] H fun v _ => v = .bl true) ∧
        ∀ base : Heap, K.In base → base.Ns mainGlobals mg → FnG l.prog w K mg base k fa fd [x] sp) :
    PySem.W.WalkO q loose XP YP l.row.toRowW d [] (fun f vs => PySem.call f vs) := by
  refine Att.attach_call hn hdf fun w s₀ s₁ mg mb fa o pm cd doc a vs ns G Y ho hd hcd hmg hobj hints hlen hg => ?_
  obtain ⟨K, fd, sp, kin, hb, hsp, hF⟩ := F w mg fa _ Y G.T.g hmg
  exact law_callG kin G.T.g G.T.b G.T.builtins G.T.nolimit hg hobj hints (Nat.le_trans hlen hn2) hr hF hb fun H hS => hsp H a ns hlen hS
theorem ints_dats2 {K : PySem.W.Frag} {G : Hp} : ∀ ns : List Int, Dats K G (ns.map D.int) (ns.map V.int)
  | [] => .nil
  | n :: ns => .cons (.int n) (ints_dats2 ns)
/-- a law that hands back True -/
theorem spP_law {K : PySem.W.Frag} {R0 : List D → Res → Prop} {H : Hp} {a : Addr} {ns : List Int} (h : SqL K H a (ns.map V.int)) (hR : R0 [.rol (ns.map .int)] (.dat (.bl true))) : SpP K R0 [.ref a] H fun v _ => v = .bl true :=
  ⟨H, [.rol (ns.map .int)], _, fun _ _ e => e, .cons (.rol h (ints_dats2 ns)) .nil, hR, fun v G' H' _ _ _ hv => of_bl hv⟩
/-! facts of the top -/
/-- what an object names -/
def rfs (g : Addr → Option Obj) (a : Addr) : List Addr := match g a with
  | some o => He.refsO o
  | none => []
/-- the objects looked at: the module's names, what the functions name, what the classes reach -/
def asX (g : Addr → Option Obj) (fs cs : List Str) : List Addr := PySem.cStatics :: mainGlobals ::
  ((fs.map (He.ga (He.frG g [mainGlobals]))).flatMap fun a => a :: rfs g a) ++
  ((cs.map (He.ga (He.frG g [mainGlobals]))).flatMap fun a => a :: (rfs g a).flatMap fun b => b :: (rfs g b).flatMap fun c => c :: (rfs g c).flatMap fun d => d :: rfs g d)
def fnOb (K : PySem.W.Frag) (a : Addr) : He.FnV := match K.lookup a with
  | some ⟨_, _, .func fd, _⟩ => some (fd.name, fd.qualname, fd.params, fd.body, fd.scope, fd.globals, fd.closure, fd.defaults, fd.builtins)
  | _ => none
/-- a def: where it stands, its name, its whole name, its statement -/
structure FnA where
  ad : PySem.W.Frag → Addr
  name : Str
  qual : Str
  st : Stmt
def FnA.val (d : FnA) : He.FnV := some (d.name, d.qual, defArgs d.st, .stmts (defBody d.st), defScope d.st, mainGlobals, [], .none, builtinsNs)
def FnA.ok (K : PySem.W.Frag) (d : FnA) : Bool := (match K.lookup (d.ad K) with
  | some ⟨_, _, .func fd, _⟩ => PySem.W.codeIn K fd.code d.qual
  | _ => false) && PySem.W.keepIn K (.ref (d.ad K))
theorem FnA.fun_ {K : PySem.W.Frag} {d : FnA} (e : fnOb K (d.ad K) = d.val) (c : d.ok K = true) : ∃ fd, Fun K d.name d.qual d.st (d.ad K) fd := by
  obtain ⟨c1, c2⟩ := He.ba c
  unfold fnOb at e
  cases q : K.lookup (d.ad K) with
  | none => rw [q] at c1; cases c1
  | some ob =>
    obtain ⟨oc, od, dt, osl⟩ := ob
    rw [q] at c1 e
    cases dt with
    | func fd =>
      obtain ⟨m1, m2, m3, m4, m5, m6, m7, m8, m9, ma, mb, mc, md, me, mf⟩ := fd
      have e2 : (some (m1, m2, m3, m4, m5, m6, m7, m8, mf) : He.FnV) = some (d.name, d.qual, defArgs d.st, .stmts (defBody d.st), defScope d.st, mainGlobals, [], .none, builtinsNs) := e
      simp only [Option.some.injEq, Prod.mk.injEq] at e2
      obtain ⟨rfl, rfl, rfl, rfl, rfl, rfl, rfl, rfl, rfl⟩ := e2
      exact ⟨_, fun_mk (st := d.st) q c1 c2⟩
    | _ => cases c1
abbrev AlC : Type := Bool × List He.FnV
def obsC (chk : PySem.W.Frag → Bool) (fn : List FnA) (K : PySem.W.Frag) : AlC := (chk K && fn.all fun d => d.ok K, fn.map fun d => fnOb K (d.ad K))
def valC (fn : List FnA) : AlC := (true, fn.map FnA.val)
def SaysC (chk : PySem.W.Frag → Bool) (fn : List FnA) (K : PySem.W.Frag) : Prop := obsC chk fn K = valC fn
def obsCG (fs cs : List Str) (chk : PySem.W.Frag → Bool) (fn : List FnA) (g : Addr → Option Obj) : AlC := obsC chk fn (He.frG g (asX g fs cs))
def hookC (fs cs : List Str) (chk : PySem.W.Frag → Bool) (fn : List FnA) : PySem.W.Hook where
  α := AlC
  obs := fun s => obsCG fs cs chk fn s.heap.get?
  val := fun _ => valC fn
  says := fun _ h => ∃ K : PySem.W.Frag, K.In h ∧ SaysC chk fn K
  of := fun _ _ e => ⟨_, He.frG_in, e⟩
  keeps := fun _ _ _ ⟨K, hK, c⟩ k => ⟨K, PySem.W.Frag.In.keeps hK k, c⟩
theorem obsCG_eq {fs cs : List Str} {chk : PySem.W.Frag → Bool} {fn : List FnA} {g : Addr → Option Obj} {s : Shared} (h : ∀ a, g a = s.heap.get? a) : obsCG fs cs chk fn g = (hookC fs cs chk fn).obs s := by
  have e : g = s.heap.get? := funext h
  subst e
  rfl
section
variable {chk : PySem.W.Frag → Bool} {fn : List FnA} {K : PySem.W.Frag}
theorem SaysC.all (c : SaysC chk fn K) : chk K = true := (He.ba (congrArg (fun z : AlC => z.1) c)).1
/-- a def by its place -/
theorem SaysC.def_ (c : SaysC chk fn K) (i : Nat) {d : FnA} (h : fn[i]? = some d := by rfl) : ∃ fd, Fun K d.name d.qual d.st (d.ad K) fd := by
  have c2 := (He.ba (congrArg (fun z : AlC => z.1) c)).2
  have e : fn.map (fun d => fnOb K (d.ad K)) = fn.map FnA.val := congrArg (fun z : AlC => z.2) c
  have e2 : (fn.map fun d => fnOb K (d.ad K))[i]? = (fn.map FnA.val)[i]? := by rw [e]
  rw [List.getElem?_map, List.getElem?_map, h] at e2
  exact FnA.fun_ (Option.some.inj e2) (List.all_eq_true.mp c2 d (List.mem_of_getElem? h))
end
/-! checks of a class -/
/-- the getter of a property -/
def propAd (x f : Str) (K : PySem.W.Frag) : Addr := match PySem.W.recIn K (He.ma K (He.ga K x) f) "property" with
  | some (.ref g :: _) => g
  | _ => 0
def gloAd (x : Str) (K : PySem.W.Frag) : Addr := He.ga K x
def metAd (x m : Str) (K : PySem.W.Frag) : Addr := He.ma K (He.ga K x) m
def propB (x f : Str) (K : PySem.W.Frag) : Bool := He.eqO (PySem.W.findIn K (.ref (He.ga K x)) f) (some (some (.ref (He.ma K (He.ga K x) f)))) && (He.eqO (PySem.W.specialIn K (.ref (He.ma K (He.ga K x) f)) "__get__") (some (some (.builtin "property.__get__"))) && (decide (PySem.W.takesIn K (.ref (He.ma K (He.ga K x) f)) = some true) && (match PySem.W.recIn K (He.ma K (He.ga K x) f) "property" with
  | some (.ref _ :: _) => true
  | _ => false)))
theorem propB_ok {x f : Str} {K : PySem.W.Frag} (c : propB x f K = true) : PropOf K (He.ga K x) f (He.ma K (He.ga K x) f) (propAd x f K) := by
  obtain ⟨c1, c⟩ := He.ba c
  obtain ⟨c2, c⟩ := He.ba c
  obtain ⟨c3, c4⟩ := He.ba c
  refine ⟨He.eqO_ok c1, He.eqO_ok c2, of_decide_eq_true c3, ?_⟩
  unfold propAd
  split at c4
  · rename_i g rest e
    rw [e]
    exact ⟨rest, rfl⟩
  · cases c4
def iscB (x : Str) (K : PySem.W.Frag) : Bool := (He.Fa.cls x).ok K && (He.eqO (PySem.W.findIn K (.ref (He.ga K x)) "__class__") (some (some (.builtin "object.__class__"))) && (He.eqO (PySem.W.specialIn K (.builtin "object.__class__") "__get__") (some (some (.builtin "getset_descriptor.__get__"))) && (decide (PySem.W.takesIn K (.builtin "object.__class__") = some true) && (decide (PySem.W.mroIn K (He.ga K x) (.type "object") = some true) && decide (PySem.W.kitOne K (.ref (He.ga K x)) (.ref (He.ga K x)) = some true)))))
theorem iscB_ok {x : Str} {K : PySem.W.Frag} (c : iscB x K = true) : IsC K (He.ga K x) := by
  obtain ⟨c1, c⟩ := He.ba c
  obtain ⟨c2, c⟩ := He.ba c
  obtain ⟨c3, c⟩ := He.ba c
  obtain ⟨c4, c⟩ := He.ba c
  obtain ⟨c5, c6⟩ := He.ba c
  exact ⟨He.cls_ok c1, He.eqO_ok c2, He.eqO_ok c3, of_decide_eq_true c4, of_decide_eq_true c5, of_decide_eq_true c6⟩
def cintB (x f : Str) (i : Int) (K : PySem.W.Frag) : Bool := PySem.W.readsIn K (He.ga K x) (.type "type") && (He.eqO (PySem.W.specialIn K (.ref (He.ga K x)) "__getattribute__") (some (some (.builtin "type.__getattribute__"))) && (match PySem.W.findCls K (.ref (He.ga K x)) (.type "type") f with
  | some (.val (.int j _)) => decide (j = i)
  | _ => false))
theorem cintB_ok {x f : Str} {i : Int} {K : PySem.W.Frag} (c : cintB x f i K = true) : ∃ mc w, ClX.CRead K (He.ga K x) mc ∧ ClX.CVal K (He.ga K x) mc f (.int i) w := by
  obtain ⟨c1, c⟩ := He.ba c
  obtain ⟨c2, c3⟩ := He.ba c
  split at c3
  · rename_i j t e
    have e2 : j = i := of_decide_eq_true c3
    subst e2
    exact ⟨_, _, ⟨c1, He.eqO_ok c2⟩, ⟨e, ⟨t, rfl⟩⟩⟩
  · cases c3
end DL
set_option maxHeartbeats 4000000
/-! DAE: own exceptions with an own __init__, over any built-in class whose rows the kit knows. -/
namespace DL
open PySem PySem.Spec PyProof.Rows
/-- what the top says of such a class -/
structure ExcK (bmB : List Value) (newId : String) (K : PySem.W.Frag) (C : Addr) : Prop where
  ini : PySem.W.excInitIn K C bmB newId = true
  ovr : PySem.W.excOver K C bmB = true
  hdc : PySem.W.hasDictIn K C = true
  sa : PySem.W.findIn K (.ref C) "__setattr__" = some (some (.builtin "object.__setattr__"))
  exC : PySem.W.subIn K (.ref C) (.type "BaseException") = some true
  tyC : PySem.W.typeIn K (.ref C) = some (.type "type")
  kC : PySem.W.keepIn K (.ref C) = true
section
open PySem.W PySem.Calls PySem.HandSPX Builtin Builtin.ObjectAttr
variable {prog : Program} {w : World} {A : Around} {E : Value → Shared → Prop} {R : Result → Shared → Prop} {hp : Heap} {g : Array GenState} {d : Drawn} {t : Nat} {os : OsState} {K : W.Frag} {bmB : List Value} {newId B : String} {C : Addr}
/-- the first field -/
theorem exA_new (SF : StoreFacts B bmB "object.__setattr__" "object") (T : ExcK bmB newId K C) {name : Str} {tk : Tok} {v : Value} {x t0 : Addr} (X : K.In hp) (hx : hp.get? x = some (W.excObj C t0 none .none)) (hno : W.findIn K (.ref C) name = some none)
    (hq : ∀ h' tk' dx, (∀ b o, b ≠ x → hp.get? b = some o → h'.get? b = some o) → hp.objs.size ≤ dx → dx ≠ x → h'.get? x = some (W.excObj C t0 (some dx) .none) → h'.Ns1 dx (fun y => if y = name then some v else none) → R (.ok (.ret .none)) ⟨h', g, d, tk', os⟩) :
    codeAny (model prog w) A (.call (.builtin "object.__setattr__") ⟨[.ref x, .str name tk, v], []⟩) R ⟨hp, g, d, t, os⟩ := by
  have ht : W.takerIn K C name = some none := by
    unfold W.takerIn
    rw [hno]
    rfl
  have hlt : x < hp.objs.size := Heap.lt_size hx
  have hne : x ≠ hp.objs.size := Nat.ne_of_lt hlt
  refine W.osa_openX (od := none) SF X ⟨hx, rfl, rfl, trivial⟩ T.ovr ht fun b => ?_
  obtain ⟨cd, hc, hd⟩ := W.any_some T.hdc
  refine wpAny_bind (wpAny_pure (wpAny_bind (W.instanceDict_exc hx (W.looks_clsIn X hc) hd ?_)))
  show wpAny _ _ (storeInDict hp.objs.size (.str name tk) name v) _ _ _
  refine store_in_new ⟨_, #[], _, (Heap.get?_update_ne _ _ _ _ hne.symm).trans (Heap.get?_push_at rfl rfl), rfl, fun e he => absurd he (by simp), fun _ => rfl⟩ fun h' tk' hn hs => ?_
  have hx1 : (hp.push (W.dictOf [] 0)).get? x = some (W.excObj C t0 none .none) := Heap.get?_push_of_some _ hx
  refine hq h' tk' hp.objs.size (fun b o hb ho => ?_) (Nat.le_refl _) hne.symm ?_ hn
  · exact (hs.2 b (Nat.ne_of_lt (Heap.lt_size ho))).trans ((Heap.get?_update_ne _ _ _ _ hb).trans (Heap.get?_push_of_some _ ho))
  · exact (hs.2 x hne).trans (Heap.get?_update_self _ hx1 rfl)
/-- a further field -/
theorem exA_old (SF : StoreFacts B bmB "object.__setattr__" "object") (T : ExcK bmB newId K C) {name : Str} {tk : Tok} {v : Value} {x t0 dx : Addr} {m0 : Str → Option Value} {nl : List Str} (X : K.In hp) (hx : hp.get? x = some (W.excObj C t0 (some dx) .none)) (hns : hp.Ns1 dx m0) (hw : Within m0 nl) (hz : nl.length ≤ 1000) (hno : W.findIn K (.ref C) name = some none)
    (hq : ∀ h' tk', (∀ b o, b ≠ dx → hp.get? b = some o → h'.get? b = some o) → h'.Ns1 dx (fun y => if y = name then some v else m0 y) → R (.ok (.ret .none)) ⟨h', g, d, tk', os⟩) :
    codeAny (model prog w) A (.call (.builtin "object.__setattr__") ⟨[.ref x, .str name tk, v], []⟩) R ⟨hp, g, d, t, os⟩ := by
  have ht : W.takerIn K C name = some none := by
    unfold W.takerIn
    rw [hno]
    rfl
  obtain ⟨oD, _, _, hoD, _, _⟩ := hns.count hw
  refine W.osa_openX (od := some oD) SF X ⟨hx, rfl, rfl, hoD⟩ T.ovr ht fun b => ?_
  obtain ⟨cd, hc, hd⟩ := W.any_some T.hdc
  refine wpAny_bind (wpAny_pure (wpAny_bind (wpAny_bind (wpAny_loadPart hx (wpAny_bind ((W.looks_clsIn X hc).here ?_))))))
  rw [hd]
  refine wpAny_pure (a := some dx) ?_
  exact PySem.OEX.store_in_old hns hw hz fun h' tk' hn hs => hq h' tk' (fun b o hb ho => (hs.2 b hb).trans ho) hn
end
end DL
set_option maxHeartbeats 4000000
/-! DAF: such exceptions made by their own __init__, as rules. -/
namespace DL
open PySem PySem.Spec PyProof.Rows L2
section
variable {X : Cx} {pins : List (Addr × Obj)} {σ : L2.St} {H : Hp} {s : Shared} {a C dx : Addr} {f : Str} {y : V} {u : Value} {fs : List (Str × V)} {Q : Unit → Shared → Prop} {E : Value → Shared → Prop} {A : Around} {bmB : List Value} {newId initId B : String}
theorem fld_new (SF : StoreFacts B bmB "object.__setattr__" "object") (T : ExcK bmB newId X.K C) (I : L2.Inv X pins σ H s) (e : H a = some (exo a C none)) (hno : PySem.W.findIn X.K (.ref C) f = some none) (ry : L2.RelV y u)
    (h : ∀ dx s', H dx = none → dx ≠ a → L2.Inv X pins σ (upd (upd H dx (exd dx [(f, y)])) a (exo a C (some dx))) s' → Q () s') : wpAny (model X.prog X.w) A (setAttr (.ref a) f u) Q E s := by
  obtain ⟨t1, ho⟩ := exo_at I.hok e
  obtain ⟨hp, g, d, t, os⟩ := s
  refine PySem.W.set_plain I.kIn (od := none) ⟨ho, rfl, rfl, trivial⟩ T.sa (exA_new SF T I.kIn ho hno fun h' tk' dx k dn dne hx hn => ?_)
  have hnd : H dx = none := I.hok.fresh dn
  have old : ∀ {b : Addr} {o : Obj}, hp.get? b = some o → b ≠ dx := fun {b o} q => Nat.ne_of_lt (Nat.lt_of_lt_of_le (Heap.lt_size q) dn)
  have noa : ∀ {b : Addr}, H b = none → b ≠ a := fun {b} n z => by rw [z, e] at n; cases n
  have U : Un X.fs [] H (upd (upd H dx (exd dx [(f, y)])) a (exo a C (some dx))) hp h' := by
    refine ⟨fun b o q n _ _ => k b o (noa n) q, fun b o q n _ _ => ⟨o.slots, k b o (noa n) q⟩, fun b o q n _ => by rw [upd_ne (noa n), upd_ne (old q)]; exact n, fun b o q _ => ?_, fun b xs q => by rw [upd_ne (at_ne e q exo_tup), upd_ne (ne_of_none q hnd)]; exact q, fun b o v q => by rw [upd_ne (at_ne e q exo_frz), upd_ne (ne_of_none q hnd)]; exact q, fun b ps q => ⟨#[], by rw [upd_ne (at_ne e q exo_tbl), upd_ne (ne_of_none q hnd), q]; simp⟩⟩
    by_cases hb : b = a
    · exact ⟨_, hb ▸ hx⟩
    · exact ⟨o, k b o hb q⟩
  refine h dx _ hnd dne (I.un (t' := tk') U fun b o q => ?_)
  by_cases hb : b = a
  · subst hb
    rw [upd_same] at q
    cases q
    exact exo_ok hx
  · rw [upd_ne hb] at q
    by_cases hd : b = dx
    · subst hd
      rw [upd_same] at q
      cases q
      exact exd_ok hn (relO_put (fs := []) ry fun g => True.intro)
    · rw [upd_ne hd] at q
      refine (I.hok b o q).stay (fun c v hc z => k c v ?_ z) (fun c hc => by rw [upd_ne (at_ne e hc exo_own), upd_ne (ne_of_none hc hnd)]; exact hc) fun c xs hc => by rw [upd_ne (at_ne e hc exo_tup), upd_ne (ne_of_none hc hnd)]; exact hc
      rcases hc with hc | hc
      · rw [hc]; exact hb
      · exact at_ne e hc exo_own
theorem fld_old (SF : StoreFacts B bmB "object.__setattr__" "object") (T : ExcK bmB newId X.K C) (I : L2.Inv X pins σ H s) (e : H a = some (exo a C (some dx))) (ed : H dx = some (exd dx fs)) (hl : fs.length ≤ 900) (hno : PySem.W.findIn X.K (.ref C) f = some none) (ry : L2.RelV y u)
    (h : ∀ s', L2.Inv X pins σ (upd H dx (exd dx ((f, y) :: fs))) s' → Q () s') : wpAny (model X.prog X.w) A (setAttr (.ref a) f u) Q E s := by
  obtain ⟨t1, ho⟩ := exo_at I.hok e
  obtain ⟨mA, hns, rel⟩ := exd_at I.hok ed
  have hw := within_of rel
  obtain ⟨hp, g, d, t, os⟩ := s
  obtain ⟨oD, _, _, hoD, _, _⟩ := hns.count hw
  refine PySem.W.set_plain I.kIn (od := some oD) ⟨ho, rfl, rfl, hoD⟩ T.sa (exA_old SF T I.kIn ho hns hw (by rw [List.length_map]; omega) hno fun h' tk' k hn => ?_)
  have hd : ∃ o, h'.get? dx = some o := by
    obtain ⟨o, _, _, e', _⟩ := hn
    exact ⟨o, e'⟩
  exact h _ (I.write (t' := tk') (x := dx) (e := dx) (o := exd dx ((f, y) :: fs)) (by rw [ed]; exact True.intro) (.inl rfl) k hd (exd_ok hn (relO_put ry rel)))
theorem base_init {us : List Value} {Q : Value → Shared → Prop} (EF : ExcBaseFacts B newId initId bmB) (T : ExcK bmB newId X.K C) (I : L2.Inv X pins σ H s) (e : H a = some (exo a C none)) (hl : us.length ≤ sizeLine) (h : ∀ s', L2.Inv X pins σ H s' → Q .none s') :
    wpAny (model X.prog X.w) A (call (.builtin initId) (.ref a :: us)) Q E s := by
  obtain ⟨nm, N, qn, bs, bm, hdct, sn, sub, ab, col, dd, k0, k1, k2, k3, k5, hC, hT⟩ := PySem.W.excInit_of I.kIn T.ini
  obtain ⟨t1, ho⟩ := exo_at I.hok e
  obtain ⟨hp, g, d, t, os⟩ := s
  refine wpAny_call (PySem.HandSPX.init_base EF hT hC ho hl fun h' t2 k hx => ?_)
  have J := I.write (t' := t) (x := a) (e := a) (o := exo a C none) (by rw [e]; exact True.intro) (.inl rfl) k ⟨_, hx⟩ (exo_ok hx)
  have same : upd H a (exo a C none) = H := funext fun b => by
    by_cases hb : b = a
    · rw [hb, upd_same, e]
    · rw [upd_ne hb]
  rw [same] at J
  exact h _ J
end
/-- the __init__ that an own class over a built-in one has of it -/
structure BaseI (K : PySem.W.Frag) (CL : Addr) (initId : String) : Prop where
  rd : PySem.W.readsIn K CL (.type "type") = true
  ga : PySem.W.specialIn K (.ref CL) "__getattribute__" = some (some (.builtin "type.__getattribute__"))
  fi : PySem.W.findCls K (.ref CL) (.type "type") "__init__" = some (.val (.builtin initId))
def tBaseI (K : PySem.W.Frag) (bmB : List Value) (newId : String) (ta : TA) : TE := fun σ H Q => ta σ H fun vs H1 => ∃ (a C : Addr) (ws : List V), vs = .ref a :: ws ∧ ws.length ≤ 1000 ∧ ExcK bmB newId K C ∧ H1 a = some (exo a C none) ∧ Q .non H1
def tFld (K : PySem.W.Frag) (bmB : List Value) (newId : String) (f : Str) (to te : TE) : TS := fun D σ H => te σ H fun y H1 => to σ H1 fun x H2 => ∃ a C : Addr, x = .ref a ∧ ExcK bmB newId K C ∧ PySem.W.findIn K (.ref C) f = some none ∧
  ((H2 a = some (exo a C none) ∧ ∀ dx, H2 dx = none → dx ≠ a → D.nx σ (upd (upd H2 dx (exd dx [(f, y)])) a (exo a C (some dx)))) ∨
    ∃ (dx : Addr) (fs : List (Str × V)), H2 a = some (exo a C (some dx)) ∧ H2 dx = some (exd dx fs) ∧ fs.length ≤ 900 ∧ D.nx σ (upd H2 dx (exd dx ((f, y) :: fs))))
section
variable {X : Cx} {o e : Expr} {es : List Expr} {to te : TE} {ta : TA} {f x : Str} {p p' p1 p2 pos : Pos} {CL C : Addr} {bmB : List Value} {newId initId B : String}
theorem pe_binit {pl : Sem Bool} (EF : ExcBaseFacts B newId initId bmB) (BI : BaseI X.K CL initId) (hh : PySem.W.handedIn (.builtin initId) = true) (hg : Gl X x) (hm : X.mg x = some (.ref CL)) (ha : PA X (e :: es) ta) (hd : (x == ("__debug__" : Str)) = false := by decide)
    (hc : eval (.Call (.Attribute (.Name x p1) "__init__" p2) (e :: es) [] pos) X.env = (do
      let ov ← eval (.Name x p1) X.env
      standAt p2.atName
      let (f, first) ← holding [ov] (getMethod ov "__init__" pl)
      callWith pos f first (backTo pos (starEach (e :: es) X.env)) (backToKw pos (keywordEach [] X.env))) := by rfl)
    (he : starEach (e :: es) X.env = (false, eval e X.env) :: starEach es X.env := by rfl) (hpl : (backTo pos (starEach es X.env)).any (·.1) = false := by rfl) :
    PE X (.Call (.Attribute (.Name x p1) "__init__" p2) (e :: es) [] pos) (tBaseI X.K bmB newId ta) := by
  refine ⟨fun pins s σ H Q I h => ?_⟩
  refine PySem.W.methodCall_KW (ld_glob I hg hm ?_ hd) hc
  refine PySem.W.method_cls I.kIn BI.ga (PySem.W.cls_value I.kIn BI.rd BI.fi hh ?_)
  show wpAny _ _ (callWith pos (Value.builtin initId) [] (backTo pos (starEach (e :: es) X.env)) []) _ _ _
  refine PyProof.Rows.callWith_method1 (thn (ha.run pos pins _ σ H _ (I.tok _) h) fun us s1 ⟨vs, H1, I1, r1, a, C, ws, ev, hl, T, ea, q⟩ => ?_) he hpl
  subst ev
  cases r1 with
  | @cons _ u0 _ ur ra rr =>
    obtain rfl : u0 = Value.ref a := ra
    exact base_init EF T I1 ea (by rw [← Paired.length rr, sizeLine_eq]; omega) fun s' J => ⟨.non, H1, J, rfl, q⟩
theorem ps_efld (SF : StoreFacts B bmB "object.__setattr__" "object") (ho : PE X o to) (he : PE X e te) (hs : swapsWith e (some (.Attribute o f p')) pos.line X.env = pure false := by rfl) : PS X (.Assign [.Attribute o f p'] e pos) (tFld X.K bmB newId f to te) := by
  refine ⟨fun pins s σ H D I h => ?_⟩
  refine plainObj_wpAny_Assign_Attribute (thn (he.run pins s σ H _ I h) fun v s1 ⟨y, H1, I1, r1, q1⟩ => thn (ho.run pins s1 σ H1 _ I1 q1) fun u s2 ⟨x, H2, I2, r2, a, C, ex, T, hno, q⟩ => ?_) hs
  subst ex
  obtain rfl : u = Value.ref a := r2
  rcases q with ⟨ea, q⟩ | ⟨dx, fs, ea, ed, hl, q⟩
  · exact fld_new SF T I2 ea hno r1 fun dx s' n ne J => ⟨σ, _, J, q dx n ne⟩
  · exact fld_old SF T I2 ea ed hl hno r1 fun s' J => ⟨σ, _, J, q⟩
theorem pmk_exc {x : Str} {fI : Addr} {k : Nat} {fd : FuncData} {ps : List Str} {sp : Sp} (EF : ExcBaseFacts B newId initId bmB) (T : ExcK bmB newId X.K C) (iC : PySem.W.findIn X.K (.ref C) "__init__" = some (some (.ref fI))) (tI : PySem.W.typeIn X.K (.ref fI) = some (.type "function"))
    (F1 : FnOk X.prog X.w X.K X.mg X.base CX0 k fI fd ps sp) (hr : Room (k + 1) X.A) (hb : Binds X.K fd ps []) (hg : Gl X x) (hm : X.mg x = some (.ref C)) (ha : PA X (e :: es) ta)
    (hdb : (x == ("__debug__" : Str)) = false := by decide) (he : starEach (e :: es) X.env = (false, eval e X.env) :: starEach es X.env := by rfl) (hpl : (backTo pos (starEach es X.env)).any (·.1) = false := by rfl) :
    PMk X (.Call (.Name x p) (e :: es) [] pos) (tMkO C sp [] ta) := by
  intro pins s σ H Q I h
  obtain ⟨nm, N, qn, bs, bm, hdct, sn, sub, ab, col, dd, k0, k1, k2, k3, k5, hC0, hT⟩ := PySem.W.excInit_of I.kIn T.ini
  refine wpAny_Call_Name_kw (ld_glob I hg hm ?_ hdb)
  refine PySem.W.callWith_K (h₀ := X.base) I.ok.mod.kin T.kC (thn (ha.run pos pins s σ H _ I h) fun us s1 ⟨vs, H1, I1, r1, hz, q1⟩ => ⟨I1.kIn, ?_⟩) he hpl
  obtain ⟨nm, N, qn, bs, bm, hdct, sn, sub, ab, col, dd, k0, k1, k2, k3, k5, hC, hT⟩ := PySem.W.excInit_of I1.kIn T.ini
  show wpAny _ _ (call (.ref C) us) _ _ _
  obtain ⟨hp, g, dr, tk, os⟩ := s1
  have up : hp.objs.size ≤ hp.objs.size + 1 := Nat.le_succ _
  have free : H1 (hp.objs.size + 1) = none := I1.hok.fresh up
  have hq := q1 (hp.objs.size + 1) free
  have keep : ∀ b o, hp.get? b = some o → ((hp.push (PySem.W.kdv_tup us)).push (PySem.HandSPX.excO C hp.objs.size)).get? b = some o := fun b o e => Heap.get?_push_of_some _ (Heap.get?_push_of_some _ e)
  have new : ((hp.push (PySem.W.kdv_tup us)).push (PySem.HandSPX.excO C hp.objs.size)).get? (hp.objs.size + 1) = some (PySem.HandSPX.excO C hp.objs.size) := by heap_get
  have I2 : L2.Inv X pins σ (upd H1 (hp.objs.size + 1) (exo (hp.objs.size + 1) C none)) ⟨(hp.push (PySem.W.kdv_tup us)).push (PySem.HandSPX.excO C hp.objs.size), g, dr, tk, os⟩ :=
    I1.laid (t' := tk) (a := hp.objs.size + 1) (o := exo (hp.objs.size + 1) C none) keep up (exo_ok new)
  rw [List.append_nil] at hq
  have r2 : Vals (V.ref (hp.objs.size + 1) :: vs) (Value.ref (hp.objs.size + 1) :: us) := .cons rfl r1
  have hl : (Value.ref (hp.objs.size + 1) :: us ++ []).length = ps.length := by
    have e := r2.length
    rw [F1.len _ _ _ _ hq] at e
    rw [List.append_nil]
    exact e.symm
  have hus : us.length ≤ sizeLine := by
    rw [← Paired.length r1, sizeLine_eq]
    omega
  have hbs := hb _ (Value.ref (hp.objs.size + 1) :: us) I2.kIn hl
  rw [List.append_nil] at hbs
  refine wpAny_call (PySem.HandSPX.call_own EF hT hC (PySem.W.looks_findIn I1.kIn iC) (fun self => PySem.W.bind_fn I1.kIn self tI) hus
    (codeAny_mono (F1.run _ X.stack _ _ ⟨Value.ref (hp.objs.size + 1) :: us, []⟩ (Value.ref (hp.objs.size + 1) :: us) _ _ (fun _ _ _ => False) (hr.make C us []) (I2.env0.make C us []) hbs r2 hq) fun r s' hq' => ?_))
  cases r with
  | error er => exact hq'.elim
  | ok fl =>
    cases fl with
    | ret u =>
      obtain ⟨v, H2, os2, bare2, un2, hok2, rv, ev, d, fs, ea, ed, hd1, q2⟩ := hq'
      subst ev
      obtain ⟨h2, g2, d2, t2, os'⟩ := s'
      exact ⟨rv, mk_end (raises_own T.exC T.tyC) I1 up keep un2 hok2 os2 bare2 ea ed hd1 q2⟩
    | next => exact False.elim hq'
    | brk => exact False.elim hq'
    | cont => exact False.elim hq'
end
end DL
/-! DAG: defs that raise; blocks that end by an exception; try .. except C as e. -/
namespace DL
open PySem PySem.Spec PyProof.Rows L2
abbrev SpE := List V → Hp → XK → Prop
/-- the def at f raises as sp says, where no repr is under way -/
structure FnX (P : Program) (w : World) (K : PySem.W.Frag) (mg : Str → Option Value) (base : Heap) (k : Nat) (f : Addr) (fd : FuncData) (ps : List Str) (sp : SpE) : Prop where
  len : ∀ vs H E, sp vs H E → vs.length = ps.length
  run : ∀ (A : Around) (outer : List Env) (s : Shared) (H : Hp) (args : Args) (us : List Value) (vs : List V) (E : XK), Room k A → A.guards = some [] → Env0 P w K mg base A outer s H → BindsTo s fd args (ps.zip us) → Vals vs us → sp vs H E →
    codeAny (model P w) A (.call (.ref f) args) (CR (L2.CX P w) outer P w H s (fun _ _ => False) E) s
abbrev noEnds : Ends := { nx := fun _ _ => False, rt := fun _ _ => False }
section
variable {P : Program} {w : World} {K : PySem.W.Frag} {mg : Str → Option Value} {base : Heap} {k j : Nat} {f : Addr} {fd : FuncData} {ps N : List Str} {sp : SpE} {x qual : Str} {st : Stmt}
theorem FnX.mono (F : FnX P w K mg base j f fd ps sp) (h : j ≤ k) : FnX P w K mg base k f fd ps sp := ⟨F.len, fun A outer s H args us vs E hr => F.run A outer s H args us vs E (hr.mono h)⟩
/-- the context of a body that may raise -/
abbrev BodyE (P : Program) (w : World) (K : PySem.W.Frag) (mg : Str → Option Value) (base : Heap) (N : List Str) (qual : Str) (st : Stmt) (f : Addr) (cd : Value) (A : Around) (outer : List Env) (s : Shared) (H : Hp) (E : XK) : Cx :=
  cxOf (L2.CX P w) P w K mg base N qual (defScope st) f cd A outer s H E
theorem takesE {cd : Value} {A : Around} {outer : List Env} {s : Shared} {H : Hp} {E : XK} : Takes (BodyE P w K mg base N qual st f cd A outer s H E) (fun cls d _ H' => E cls d H') := takes_of rfl rfl rfl rfl
theorem fnx_of (F : Fun K x qual st f fd) (S : FnScope N ps (defScope st)) (len : ∀ vs H E, sp vs H E → vs.length = ps.length)
    (hbody : ∀ (cdv : Value) (A : Around) (outer : List Env) (s : Shared) (H : Hp) (vs : List V) (E : XK), Room k (A.deeper (envOfC qual (defScope st) s.heap.objs.size f cdv)) → A.guards = some [] → sp vs H E →
      ∃ t, PSs (BodyE P w K mg base N qual st f cdv A outer s H E) (defBody st) t ∧ t noEnds (start N vs) H) : FnX P w K mg base (k + 1) f fd ps sp := by
  obtain ⟨oc, od, kV, doc, pm, an, cdv, ct, osl, rfl, lk, hcd⟩ := F.ex
  refine ⟨len, fun A outer s H args us vs E hr hgd e0 hb r hsp => ?_⟩
  have hl := len _ _ _ hsp
  have old : ∀ b o, base.get? b = some o → s.heap.get? b = some o := fun b o e => (e0.bs b o e).1
  have lim : s.heap.NoLimit := e0.mod.nolimit.keeps old
  have kin : K.In s.heap := e0.mod.kin.keeps old
  have kinds : ∀ y ∈ ps.zip us, (defScope st).names.lookup y.1 = some .local ∨ ((defScope st).names.lookup y.1 = some .cell ∧ ((cellsFrom (s.heap.objs.size + 1) (defScope st).names []).lookup y.1).isSome = true) := by
    rintro ⟨n, v⟩ hy
    cases S.par n (List.of_mem_zip hy).1 with
    | inl q => exact .inl q
    | inr q => exact .inr ⟨q, PySem.W.cellsFrom_some _ _ _ (.inl q)⟩
  refine codeAny_call_function hr.depth (kin _ _ lk) rfl S.co S.gen rfl (PySem.W.codeRec_of kin hcd) (hb _ _ _ _ (wpAny_newFunctionEnv_cells S.kind kinds fun env he s1 xx => ?_))
  subst he
  obtain ⟨t, ht, hq⟩ := hbody cdv A outer s H vs E (hr.deeper _) hgd hsp
  have J0 := inv_start (CX := L2.CX P w) (E := E) (cd := cdv) S hr.hd e0 hl r xx
  refine ⟨lim.keeps xx.toInCall.keep, codeAny_func (wpAny_mono (ht.run [] s1 (start N vs) H _ J0 hq) (fun fl s' hs => ?_) fun e s' hs => hs)⟩
  cases fl with
  | ret u =>
    obtain ⟨_, _, _, _, _, q⟩ := hs
    exact q.elim
  | next =>
    obtain ⟨_, _, _, q⟩ := hs
    exact q.elim
  | brk =>
    obtain ⟨_, _, _, q⟩ := hs
    exact q.elim
  | cont =>
    obtain ⟨_, _, _, q⟩ := hs
    exact q.elim
end
/-! ### ends by an exception, over data -/
def tDX (K : PySem.W.Frag) (S S' : DSt) (C : Addr) (ns : List Str) (ds : List D) (W : WX) (σ : L2.St) (H : Hp) : Prop :=
  ∃ F G α, Rl K F G α S σ H ∧ ∀ G' α' σ' H' dx vs, GX F G G' → α' 0 = α 0 → Rl K F G' α' S' σ' H' → F dx = none → G' dx = some (.xd (ns.zip vs)) → ns.length = vs.length → Dats K G' ds vs → W (.ref C) (some dx) σ' H'
def DX (X : Cx) (sts : List Stmt) (S S' : DSt) (C : Addr) (ns : List Str) (ds : List D) : Prop := ∀ W, Takes X W → PSs X sts fun _ σ H => tDX X.K S S' C ns ds W σ H
def DX1 (X : Cx) (st : Stmt) (S S' : DSt) (C : Addr) (ns : List Str) (ds : List D) : Prop := ∀ W, Takes X W → PS X st fun _ σ H => tDX X.K S S' C ns ds W σ H
def DXE (X : Cx) (e : Expr) (S S' : DSt) (C : Addr) (ns : List Str) (ds : List D) : Prop := ∀ W, Takes X W → PE X e fun σ H _ => tDX X.K S S' C ns ds W σ H
/-- it raises, as R says of the arguments: the class, its fields' names, their values -/
def SpXP (K : PySem.W.Frag) (R : List D → Addr → List Str → List D → Prop) : SpE := fun vs H E => ∃ G ds C ns fs, Same G H ∧ Dats K G ds vs ∧ R ds C ns fs ∧
  ∀ G' H' dx ws, Same H H' → GX H G G' → Same G' H' → H dx = none → G' dx = some (.xd (ns.zip ws)) → ns.length = ws.length → Dats K G' fs ws → E (.ref C) (some dx) H'
section
variable {X : Cx} {e c : Expr} {es : List Expr} {S S1 S2 : DSt} {u : U} {us : List U} {C : Addr} {ns : List Str} {ds fs : List D} {pos p : Pos} {st : Stmt} {sts : List Stmt} {x : Str}
theorem tDX.on {K : PySem.W.Frag} {W : WX} {F G G1 : Hp} {α α1 : Nat → Addr} {σ : L2.St} {H : Hp} (g : GX F G G1) (a : α1 0 = α 0) (R : Rl K F G1 α1 S1 σ H)
    (k : ∀ G' α' σ' H' dx vs, GX F G G' → α' 0 = α 0 → Rl K F G' α' S2 σ' H' → F dx = none → G' dx = some (.xd (ns.zip vs)) → ns.length = vs.length → Dats K G' ds vs → W (.ref C) (some dx) σ' H') : tDX K S1 S2 C ns ds W σ H :=
  ⟨F, G1, α1, R, fun G' α' σ' H' dx vs g' a' R' f l n d => k G' α' σ' H' dx vs (g.trans g') (a'.trans a) R' f l n d⟩
theorem dx_cons (h1 : DS X st S (.nx S1)) (h2 : DX X sts S1 S2 C ns ds) : DX X (st :: sts) S S2 C ns ds := fun W t =>
  PSs.wk (pss_cons h1 (h2 W t)) fun E σ H ⟨F, G, α, R, k⟩ => ⟨F, G, α, R, fun G1 α1 σ1 H1 g a R1 => tDX.on g a R1 k⟩
theorem dx_here (h : DX1 X st S S2 C ns ds) : DX X (st :: sts) S S2 C ns ds := fun W t => PSs.wk (pss_cons (h W t) pss_never) fun E σ H q => q
theorem dx_ifT {els : List Stmt} (hc : DT X c S true S1) (h : DX X sts S1 S2 C ns ds) : DX1 X (.If c sts els pos) S S2 C ns ds := fun W t =>
  PS.wk (ps_if hc (h W t) pss_never) fun E σ H ⟨F, G, α, R, k⟩ => ⟨F, G, α, R, fun G1 α1 H1 g a R1 => iteT (tDX.on g a.1 R1 k)⟩
theorem dx_ifF {els : List Stmt} (hc : DT X c S false S1) (h : DX X els S1 S2 C ns ds) : DX1 X (.If c sts els pos) S S2 C ns ds := fun W t =>
  PS.wk (ps_if hc pss_never (h W t)) fun E σ H ⟨F, G, α, R, k⟩ => ⟨F, G, α, R, fun G1 α1 H1 g a R1 => iteF (tDX.on g a.1 R1 k)⟩
theorem dx_expr (h : DXE X e S S2 C ns ds) (hs : swapsWith e none pos.line X.env = pure false := by rfl) : DX1 X (.Expr e pos) S S2 C ns ds := fun W t => PS.wk (ps_expr (h W t) hs) fun E σ H q => q
theorem dx_ret (h : DXE X e S S2 C ns ds) : DX1 X (.Return (some e) pos) S S2 C ns ds := fun W t => PS.wk (ps_ret (h W t)) fun E σ H q => q
theorem dx_set {i : Nat} {pos' : Pos} (h : DXE X e S S2 C ns ds) (hN : X.N.Nodup) (hi : X.N[i]? = some x := by rfl) (hx : Loc X.env.scope x := by first | exact Or.inl rfl | exact Or.inr rfl)
    (hs : swapsWith e (some (.Name x pos')) pos.line X.env = pure false := by rfl) (hf : X.fn x = true ∨ X.env.scope.names.lookup x = some .local := by first | exact .inl rfl | exact .inr rfl) : DX1 X (.Assign [.Name x pos'] e pos) S S2 C ns ds := fun W t =>
  PS.wk (ps_set hN hi hx (h W t) hs hf) fun E σ H q => q
end
/-! ### raise C(..) -/
/-- an own __init__ that lays its arguments as fields -/
def SpInit (C : Addr) (fl : List Str) : Sp := fun vs H Q _ => ∃ a ws, vs = .ref a :: ws ∧ ws.length = fl.length ∧ H a = some (exo a C none) ∧
  ∀ dx H2, H dx = none → dx ≠ a → H2 a = some (exo a C (some dx)) → H2 dx = some (exd dx (fl.zip ws).reverse) → (∀ b, b ≠ a → b ≠ dx → H2 b = H b) → Q .non H2
/-- all that is wanted of an own exception class: its name in the module, its built-in base's rows, its __init__ -/
structure ExcOk (P : Program) (w : World) (K : PySem.W.Frag) (mg : Str → Option Value) (base : Heap) (x : Str) (fl : List Str) (C : Addr) : Prop where
  ex : ∃ (bmB : List Value) (B newId initId : String), ExcBaseFacts B newId initId bmB ∧ ExcK bmB newId K C
  mgc : mg x = some (.ref C)
  ini : ∃ (fI : Addr) (fd : FuncData) (ps : List Str), PySem.W.findIn K (.ref C) "__init__" = some (some (.ref fI)) ∧ PySem.W.typeIn K (.ref fI) = some (.type "function") ∧ FnOk P w K mg base CX0 1 fI fd ps (SpInit C fl) ∧ Binds K fd ps []
theorem rev_zip {β : Type} : ∀ (as : List Str) (bs : List β), as.length = bs.length → (as.zip bs).reverse = as.reverse.zip bs.reverse
  | [], [], _ => rfl
  | a :: as, b :: bs, h => by
    have h' : as.length = bs.length := Nat.succ.inj h
    rw [List.zip_cons_cons, List.reverse_cons, List.reverse_cons, List.reverse_cons, rev_zip as bs h', List.zip_append (by simpa using h')]
    rfl
section
variable {X : Cx} {e : Expr} {es : List Expr} {S S1 S2 : DSt} {us : List U} {C : Addr} {fl : List Str} {ds : List D} {pos pos' p : Pos} {x : Str}
theorem dx_raise {ns : List Str} {fs : List D} (T : ExcOk X.prog X.w X.K X.mg X.base x fl C) (hr : RoomG 2 X.A) (hc : X.calm = true) (ha : DAr X (e :: es) S us S1) (hu : AllD us ds := by repeat constructor) (en : ns = fl.reverse := by rfl) (ef : fs = ds.reverse := by rfl) (hl : us.length = fl.length := by rfl) (hz : us.length ≤ 1000 := by decide) (hg : Gl X x := by rfl)
    (hdb : (x == ("__debug__" : Str)) = false := by decide) (he : starEach (e :: es) X.env = (false, eval e X.env) :: starEach es X.env := by rfl) (hpl : (backTo pos (starEach es X.env)).any (·.1) = false := by rfl) :
    DX1 X (.Raise (some (.Call (.Name x p) (e :: es) [] pos)) none pos') S S1 C ns fs := by
  subst en
  subst ef
  obtain ⟨⟨bmB, B, newId, initId, EF, TK⟩, hm, fI, fd, ps, iC, tI, F1, hb⟩ := T
  refine fun W t => PS.wk (ps_raise hc t (pmk_exc EF TK iC tI F1 hr.rm hb hg hm ha hdb he hpl)) fun E σ H ⟨F, G, α, R, k⟩ => ⟨F, G, α, R, fun vs G1 α1 H1 g1 a1 R1 uvs => ?_⟩
  have lv : vs.length = fl.length := by rw [uvs.len]; exact hl
  refine ⟨by rw [uvs.len]; exact hz, fun a na => ⟨a, vs ++ [], rfl, by rw [List.append_nil]; exact lv, upd_same, fun dx H2 hdx hne h2a h2d h2o => ⟨rfl, dx, _, h2a, h2d, ?_, ?_⟩⟩⟩
  · rw [upd_ne hne] at hdx
    exact hdx
  · rw [upd_ne hne] at hdx
    have same : upd (del H2 a) dx (.xd (fl.zip (vs ++ [])).reverse) = upd H1 dx (.xd (fl.reverse.zip vs.reverse)) := funext fun b => by
      by_cases hb : b = dx
      · rw [hb, upd_same, upd_same, List.append_nil, rev_zip _ _ lv.symm]
      · rw [upd_ne hb, upd_ne hb]
        by_cases hba : b = a
        · rw [hba, del_same, na]
        · rw [del_ne hba, h2o b hba hb, upd_ne hba]
    rw [same]
    obtain ⟨g2, R2⟩ := R1.dat (o := .xd (fl.reverse.zip vs.reverse)) hdx (R1.apart hdx)
    refine k _ α1 σ _ dx vs.reverse (g1.trans g2) a1.1 R2 (R1.fF.free hdx) upd_same (by rw [List.length_reverse, List.length_reverse, lv]) ?_
    exact ((hu.real uvs).rev).mono (g2.1)
end
end DL
/-! DAH: calls of defs that raise; try; a caught exception's fields; own lists lent to calls. -/
namespace DL
open PySem PySem.Spec PyProof.Rows L2
/-- a def of the module that raises -/
def CalX (P : Program) (w : World) (K : PySem.W.Frag) (mg : Str → Option Value) (base : Heap) (k : Nat) (x : Str) (st : Stmt) (ps : List Str) (sp : SpE) : Prop :=
  ∃ f fd, Fun K x x st f fd ∧ mg x = some (.ref f) ∧ FnX P w K mg base k f fd ps sp ∧ Binds K fd ps []
section
variable {P : Program} {w : World} {K : PySem.W.Frag} {mg : Str → Option Value} {base : Heap} {k j : Nat} {ps N : List Str} {x : Str} {st : Stmt}
/-- a def that raises: its block ends so -/
theorem calX {R0 : List D → Addr → List Str → List D → Prop} (F : FunX K mg x st ps) (S : FnScope N ps (defScope st)) (m : Nat) (hl : ∀ ds C ns fs, R0 ds C ns fs → ds.length = ps.length)
    (body : ∀ ds C ns fs, R0 ds C ns fs → ∀ (f : Addr) (cdv : Value) (A : Around) (outer : List Env) (s : Shared) (H : Hp) (E : XK), RoomG k (A.deeper (envOfC x (defScope st) s.heap.objs.size f cdv)) →
      ∃ S', DX (BodyE P w K mg base N x st f cdv A outer s H E) (defBody st) (st0 N ds m) S' C ns fs) : CalX P w K mg base (k + 1) x st ps (SpXP K R0) := by
  obtain ⟨f, fd, h1, h2, h3⟩ := F
  refine ⟨f, fd, h1, h2, fnx_of h1 S (fun vs H E h => ?_) fun cdv A outer s H vs E hr hgd h => ?_, h3⟩
  · obtain ⟨G, ds, C, ns, fs, _, hd, hR, _⟩ := h
    rw [hd.len]
    exact hl ds C ns fs hR
  · obtain ⟨G, ds, C, ns, fs, sG, hd, hR, q⟩ := h
    obtain ⟨S', hb⟩ := body ds C ns fs hR f cdv A outer s H E ⟨hr, hgd⟩
    have hlen : ds.length ≤ N.length := by rw [hl ds C ns fs hR]; exact scope_le S
    exact ⟨_, hb _ takesE, H, G, fun _ => 0, rl_start sG hd hlen, fun G' α' σ' H' dx vs' g _ R' f0 e l d => q G' H' dx vs' R'.fF g R'.fG f0 e l d⟩
theorem CalX.mono {sp : SpE} (C : CalX P w K mg base j x st ps sp) (h : j ≤ k) : CalX P w K mg base k x st ps sp := by
  obtain ⟨f, fd, h1, h2, h3, h4⟩ := C
  exact ⟨f, fd, h1, h2, h3.mono h, h4⟩
end
section
variable {X : Cx} {k j : Nat} {x : Str} {st : Stmt} {ps : List Str} {p pos : Pos} {e : Expr} {es : List Expr} {S S1 : DSt} {us : List U} {ds fs : List D} {C : Addr} {ns : List Str}
theorem fnx_run {A : Around} {pins : List (Addr × Obj)} {σ : L2.St} {H : Hp} {s : Shared} {Q : Value → Shared → Prop} {args : Args} {us : List Value} {vs : List V} {f : Addr} {fd : FuncData} {sp : SpE} {E : XK} {W : WX} (F : FnX X.prog X.w X.K X.mg X.base k f fd ps sp) (hr : Room k A) (hgd : A.guards = some []) (hf : A.frames = some X.stack)
    (I : Inv X pins σ H s) (hb : BindsTo s fd args (ps.zip us)) (r : Vals vs us) (h : sp vs H E) (tk : Takes X W) (hW : ∀ cls d H', E cls d H' → W cls d σ H') : wpAny (model X.prog X.w) A (call (.ref f) args.pos args.kw) Q X.xe s := by
  have e := I.env0
  refine wpAny_call (codeAny_mono (F.run A X.stack s H args us vs E hr hgd ⟨hf, e.mod, e.bs, e.bsz, e.funs, e.frf, e.hok, e.bare⟩ hb r h) fun res s' hq => ?_)
  cases res with
  | error er => exact tk _ _ (XE.of_call I hW hq)
  | ok fl =>
    cases fl with
    | ret u =>
      obtain ⟨_, _, _, _, _, _, _, q⟩ := hq
      exact q.elim
    | next => exact False.elim hq
    | brk => exact False.elim hq
    | cont => exact False.elim hq
theorem dxe_call {R0 : List D → Addr → List Str → List D → Prop} (C0 : CalX X.prog X.w X.K X.mg X.base j x st ps (SpXP X.K R0)) (hr : RoomG k X.A) (ha : DAr X (e :: es) S us S1) (hR : R0 ds C ns fs) (hjk : j ≤ k := by decide) (hu : AllD us ds := by repeat constructor) (hg : Gl X x := by rfl) (hdb : (x == ("__debug__" : Str)) = false := by decide)
    (he : starEach (e :: es) X.env = (false, eval e X.env) :: starEach es X.env := by rfl) (hpl : (backTo pos (starEach es X.env)).any (·.1) = false := by rfl) : DXE X (.Call (.Name x p) (e :: es) [] pos) S S1 C ns fs := by
  obtain ⟨f, fd, h1, h2, h3, h4⟩ := C0.mono hjk
  refine fun W tk => ⟨fun pins s σ H Q I ⟨F, G, α, R, kk⟩ => wpAny_Call_Name_kw (ld_glob I hg h2 ?_ hdb)⟩
  refine PySem.W.callWith_K (h₀ := X.base) I.ok.mod.kin h1.kp (thn (ha.run pos pins s σ H _ I ⟨F, G, α, R, fun vs G1 α1 H1 g1 a1 R1 uv => (show ∃ G1 α1, GX F G G1 ∧ AX S S1 α α1 ∧ Rl X.K F G1 α1 S1 σ H1 ∧ UVs X.K G1 α1 S1.m us vs from ⟨G1, α1, g1, a1, R1, uv⟩)⟩) fun ws s1 ⟨zs, H1, I1, rr, G1, α1, g1, a1, R1, uv⟩ => ⟨I1.kIn, ?_⟩) he hpl
  have hd := hu.real uv
  have hsp : SpXP X.K R0 zs H1 (fun cls d H' => W cls d σ H') := by
    refine ⟨G1, ds, C, ns, fs, R1.fG, hd, hR, fun G' H' dx ws' s2 g2 sg hdx hG hl hds => ?_⟩
    obtain ⟨G2, α2, g3, a3, R2, u2⟩ := R1.called (r := .dat (.exc 0 dx ns fs)) (v := .ref 0) (z := .dat (.exc 0 dx ns fs)) s2 g2 sg (.exc hG hl hds) (.dat _)
    obtain ⟨ws2, _, e1, e2, e3⟩ := of_exc (show Dat X.K G2 (.exc 0 dx ns fs) (.ref 0) from u2)
    exact kk G2 α2 σ H' dx ws2 (g1.trans g3) (a1.trans a3).1 R2 (R1.fF.free hdx) e1 e2 e3
  have hl : (ws ++ []).length = ps.length := by rw [List.append_nil, ← rr.length]; exact h3.len _ _ _ hsp
  have hb := h4 s1 ws I1.kIn hl
  rw [List.append_nil] at hb
  exact fnx_run (args := ⟨ws, []⟩) h3 hr.rm hr.gd I1.ok.frames I1 hb rr hsp tk fun cls d H' h => h
end
/-! ### try: .. except C as n: .. -/
def unE (i : Nat) : Out → Out
  | .nx S => .nx ⟨S.g.set i none, S.m⟩
  | .bk S => .bk ⟨S.g.set i none, S.m⟩
  | .ct S => .ct ⟨S.g.set i none, S.m⟩
  | .rt u S => .rt u S
theorem Rl.unset {K : PySem.W.Frag} {F G : Hp} {α : Nat → Addr} {S : DSt} {σ : L2.St} {H : Hp} (R : Rl K F G α S σ H) (i : Nat) : Rl K F G α ⟨S.g.set i none, S.m⟩ (σ.set i none) H := by
  refine ⟨R.fF, R.fG, by rw [List.length_set, List.length_set]; exact R.ln, fun j u hu => ?_, R.mu, R.inj⟩
  by_cases e : i = j
  · subst e
    have hu : (S.g.set i none)[i]? = some (some u) := hu
    by_cases hl : i < S.g.length
    · rw [List.getElem?_set_self hl] at hu
      cases hu
    · rw [List.getElem?_eq_none (by rw [List.length_set]; omega)] at hu
      cases hu
  · have hu : (S.g.set i none)[j]? = some (some u) := hu
    rw [List.getElem?_set_ne e] at hu
    obtain ⟨v, h1, h2⟩ := R.sl j u hu
    exact ⟨v, by rw [List.getElem?_set_ne e]; exact h1, h2⟩
section
variable {X : Cx} {x n : Str} {C : Addr} {i : Nat} {body suite : List Stmt} {b₀ : Stmt} {np pos pos' : Pos} {S S1 : DSt} {ns : List Str} {ds : List D} {out : Out}
theorem ds_try (outf : Addr → Addr → Out) (hs : X.stack = X.env :: X.outer) (hN : X.N.Nodup) (hc : X.mg x = some (.ref C)) (hx : PySem.W.exmOne X.K (.ref C) (.ref C) = some true) (hb : ∀ pn xe, DX (X.tr pn xe) body S S1 C ns ds)
    (hsu : ∀ (a dx : Addr) (oe : Obj) (pn : List (Addr × Obj)), Zc (.ref C) (some dx) oe → (∃ vs, oe.data = .fields vs) → DSs (X.suite a ((a, oe) :: pn)) (b₀ :: suite) (setG S1 i (.dat (.exc a dx ns ds))) (outf a dx)) (ho : ∀ a dx, unE i (outf a dx) = out := by intros; rfl)
    (hi : X.N[i]? = some n := by rfl) (hln : X.env.kindOf n = some .local := by rfl) (hg : Gl X x := by rfl) (hf : X.env.frame = some X.env.locals := by rfl) (hdb : (x == ("__debug__" : Str)) = false := by decide) :
    DS X (.Try body [.ExceptHandler (some (.Name x np)) (some n) (b₀ :: suite) pos'] [] [] pos) S out := by
  have tr := ps_try_as (X := X) (x := x) (n := n) (c := .ref C) (i := i) (body := body) (suite := suite) (b₀ := b₀) (np := np) (pos := pos) (pos' := pos') (tb := fun W _ σ H => tDX X.K S S1 C ns ds W σ H)
    (ts := fun a cls d D σ H => ∃ dx, d = some dx ∧ cls = .ref C ∧ tDS X.K (setG S1 i (.dat (.exc a dx ns ds))) (outf a dx) D σ H) (Wout := fun _ _ _ _ => False) hs hf hN hi hln ⟨hg, hdb, .inl hc⟩ (fun u s' ⟨_, _, _, _, _, _, _, _, _, _, _, _, _, _, _, _, w⟩ => w.elim)
    (fun W pn xe t _ => hb pn xe W t) (fun a oe cls d pn hz hv => ⟨fun pins s σ H D I ⟨dx, ed, ec, h⟩ => by
      subst ed
      subst ec
      exact (hsu a dx oe pn hz hv).run pins s σ H D I h⟩)
  refine PS.wk tr fun E σ H ⟨F, G, α, R, k⟩ => ⟨F, G, α, R, fun G1 α1 σ1 H1 dx vs g a1 R1 fdx e l d => ⟨true, hx, fun _ a na => ⟨dx, rfl, rfl, ?_⟩, fun z => nomatch z⟩⟩
  have R2 := R1.slot (i := i) (u := .dat (.exc a dx ns ds)) (v := .ref a) (Dat.exc e l d)
  refine ⟨F, G1, α1, R2, ?_⟩
  have k2 := ho a dx
  subst k2
  cases hof : outf a dx with
  | nx S' =>
    rw [hof] at k
    exact fun G' α' σ' H' g' a' R' => k G' α' _ H' (g.trans g') (a'.trans a1) (R'.unset i)
  | bk S' =>
    rw [hof] at k
    exact fun G' α' σ' H' g' a' R' => k G' α' _ H' (g.trans g') (a'.trans a1) (R'.unset i)
  | ct S' =>
    rw [hof] at k
    exact fun G' α' σ' H' g' a' R' => k G' α' _ H' (g.trans g') (a'.trans a1) (R'.unset i)
  | rt u S' =>
    rw [hof] at k
    exact fun v G' α' σ' H' g' a' R' hu => k v G' α' σ' H' (g.trans g') (a'.trans a1) R' hu
theorem de_xf {a dx : Addr} {oe : Obj} {pn : List (Addr × Obj)} {e : Expr} {f : Str} {d : D} {S2 : DSt} (T : XfC X.K C) (hno : PySem.W.findIn X.K (.ref C) f = some none) (hz : Zc (.ref C) (some dx) oe) (hf : ∃ vs, oe.data = .fields vs)
    (h : DE (X.suite a ((a, oe) :: pn)) e S (.dat (.exc a dx ns ds)) S2) (l : (ns.zip ds).lookup f = some d) (hb : attributeBase e f X.env (eval e X.env) = eval e X.env := by rfl) : DE (X.suite a ((a, oe) :: pn)) (.Attribute e f pos) S (.dat d) S2 :=
  PE.wk (pe_xf T hno hz hf h hb) fun σ H Q ⟨F, G, α, R, k⟩ => ⟨F, G, α, R, fun v G1 α1 H1 g a1 R1 uv => by
    obtain ⟨vs, rfl, e1, e2, e3⟩ := of_exc (show Dat X.K G1 (.exc a dx ns ds) v from uv)
    obtain ⟨y, l2, dy⟩ := zip_lookup e3 l
    exact ⟨rfl, rfl, dx, _, y, rfl, R1.fG _ _ e1, l2, k y G1 α1 H1 g a1 R1 dy⟩⟩
end
/-! ### own lists, lent -/
/-- data that name no object -/
def flat : D → Bool
  | .non => true
  | .bl _ => true
  | .int _ => true
  | .str _ => true
  | _ => false
theorem flat_dat {K : PySem.W.Frag} {G G' : Hp} {d : D} {v : V} (h : flat d = true) (q : Dat K G d v) : Dat K G' d v := by
  cases d with
  | non => rw [of_non q]; exact .non
  | bl b => rw [of_bl q]; exact .bl b
  | int i => rw [of_int q]; exact .int i
  | str x => rw [of_str q]; exact .str x
  | _ => cases h
theorem flat_dats {K : PySem.W.Frag} {G G' : Hp} : ∀ {ds : List D} {vs : List V}, ds.all flat = true → Dats K G ds vs → Dats K G' ds vs
  | [], vs, _, q => by rw [of_dats0 q]; exact .nil
  | d :: ds, vs, h, q => by
    obtain ⟨v, r, rfl, h1, h2⟩ := of_dats q
    rw [List.all_cons, Bool.and_eq_true] at h
    exact .cons (flat_dat h.1 h1) (flat_dats h.2 h2)
theorem Rl.same {K : PySem.W.Frag} {F G : Hp} {α : Nat → Addr} {S : DSt} {σ : L2.St} {H H' : Hp} (R : Rl K F G α S σ H) (s : Same H H') : Rl K F G α S σ H' :=
  ⟨R.fF.trans s, R.fG.trans s, R.ln, R.sl, fun n mo hm => by
    obtain ⟨h1, h2, o, h3, h4⟩ := R.mu n mo hm
    exact ⟨h1, h2, o, s _ _ h3, h4⟩, R.inj⟩
section
variable {X : Cx} {j k : Nat} {x : Str} {st : Stmt} {ps : List Str} {p pos : Pos} {e : Expr} {es : List Expr} {S S1 S2 : DSt} {us : List U} {ds : List D} {d : D}
/-- a call with own lists among the arguments, that hands back a plain value -/
theorem de_cL {R0 : List D → Res → Prop} (C : CalE X.prog X.w X.K X.mg X.base j x st ps (SpP X.K R0)) (hr : RoomG k X.A) (ha : DAr X (e :: es) S us S1) (hv : Views S1.m us ds) (hR : R0 ds (.dat d)) (hfl : flat d = true) (hjk : j ≤ k := by decide) (hg : Gl X x := by rfl) (hdb : (x == ("__debug__" : Str)) = false := by decide)
    (he : starEach (e :: es) X.env = (false, eval e X.env) :: starEach es X.env := by rfl) (hpl : (backTo pos (starEach es X.env)).any (·.1) = false := by rfl) : DE X (.Call (.Name x p) (e :: es) [] pos) S (.dat d) S1 := by
  obtain ⟨f, fd, C⟩ := C
  exact PE.wk (pe_callG C (hr.mono hjk) ha hg hdb he hpl) fun σ H Q ⟨F, G, α, R, k⟩ => ⟨F, G, α, R, fun vs G1 α1 H1 g1 a1 R1 uv =>
    ⟨H1, ds, _, Same.refl _, Views.real R1 hv uv, hR, fun v G' H' s _ _ q => k v G1 α1 H' g1 a1 (R1.same s) (flat_dat hfl q)⟩⟩
/-- own lists among the arguments behind the first -/
inductive LentB (m : List (Option MO)) (n : Nat) : List U → List D → Prop
  | nil : LentB m n [] []
  | dat {us : List U} {ds : List D} (d : D) : LentB m n us ds → LentB m n (.dat d :: us) (d :: ds)
  | own {us : List U} {ds es : List D} {n' : Nat} : n' ≠ n → m[n']? = some (some (.lst es)) → LentB m n us ds → LentB m n (.own n' :: us) (.lst es :: ds)
theorem LentB.real {K : PySem.W.Frag} {F G : Hp} {α : Nat → Addr} {σ : L2.St} {H : Hp} {n : Nat} (R : Rl K F G α S σ H) (l : Live S.m n) : ∀ {us : List U} {ds : List D} {vs : List V}, LentB S.m n us ds → UVs K G α S.m us vs → Dats K (hid H (α n)) ds vs := by
  intro us ds vs h
  obtain ⟨mo, em⟩ := l
  have gn : G (α n) = none := (R.mu n mo em).2.1
  have sG : Same G (hid H (α n)) := fun b o q => by rw [hid_ne (ne_of_none q gn)]; exact R.fG b o q
  induction h generalizing vs with
  | nil => intro h; rw [show vs = [] from h]; exact .nil
  | dat d _ ih =>
    rintro ⟨v, r, rfl, h1, h2⟩
    exact .cons (Dat.mono sG d v h1) (ih h2)
  | @own us ds es n' hn hm _ ih =>
    rintro ⟨v, r, rfl, ⟨h1, l1⟩, h2⟩
    obtain ⟨_, g2, o, h3, ws, rfl, h4⟩ := R.mu n' _ hm
    have hne : α n' ≠ α n := fun z => hn (R.inj n' n ⟨_, hm⟩ ⟨_, em⟩ z)
    rw [h1]
    exact .cons (.lst (by rw [hid_ne hne]; exact h3) (h4.mono sG)) (ih h2)
/-- the first argument is an own list that is changed; others are lent; the list's new data name no object -/
theorem de_cOL {R0 : List D → List D → Res → List D → Prop} {n : Nat} {c c' : List D} (C : CalE X.prog X.w X.K X.mg X.base j x st ps (SpO X.K R0)) (hr : RoomG k X.A) (ha : DAr X (e :: es) S (.own n :: us) S1) (hc : S1.m[n]? = some (some (.lst c))) (hv : LentB S1.m n us ds) (hR : R0 c ds (.dat d) c') (hfl : flat d = true) (hfc : c'.all flat = true) (hS : S2 = setM S1 n (.lst c')) (hjk : j ≤ k := by decide)
    (hg : Gl X x := by rfl) (hdb : (x == ("__debug__" : Str)) = false := by decide)
    (he : starEach (e :: es) X.env = (false, eval e X.env) :: starEach es X.env := by rfl) (hpl : (backTo pos (starEach es X.env)).any (·.1) = false := by rfl) : DE X (.Call (.Name x p) (e :: es) [] pos) S (.dat d) S2 := by
  subst hS
  obtain ⟨f, fd, C⟩ := C
  exact PE.wk (pe_callG C (hr.mono hjk) ha hg hdb he hpl) fun σ H Q ⟨F, G, α, R, k⟩ => ⟨F, G, α, R, fun vs G1 α1 H1 g1 a1 R1 ⟨v0, vs', e0, h0, uv⟩ => by
    subst e0
    obtain ⟨e1, l1⟩ := h0
    obtain ⟨f1, g01, o, h3, ws, rfl, h4⟩ := R1.mu n _ hc
    have sG : Same G1 (hid H1 (α1 n)) := fun b o q => by rw [hid_ne (ne_of_none q g01)]; exact R1.fG b o q
    have sH : Same (hid H1 (α1 n)) H1 := fun b o q => by
      by_cases hb : b = α1 n
      · rw [hb, hid_same] at q; cases q
      · rw [hid_ne hb] at q; exact q
    refine ⟨hid H1 (α1 n), α1 n, c, ws, vs', ds, _, c', by rw [e1], h3, hid_same, h4.mono sG, sH, LentB.real R1 l1 hv uv, hR, fun v G' H' ws' s hw dw g sg go hres => ?_⟩
    have q1 : Same (hid H1 (α1 n)) (hid H' (α1 n)) := fun b o q => by
      by_cases hb : b = α1 n
      · rw [hb, hid_same] at q; cases q
      · rw [hid_ne hb] at q ⊢
        exact s b o hb q
    have w2 := (R1.write (n := n) (mo := .lst c') (o := .lst ws') l1 ⟨ws', rfl, flat_dats hfc dw⟩)
    have s2 : Same (upd H1 (α1 n) (.lst ws')) H' := fun b o q => by
      by_cases hb : b = α1 n
      · rw [hb, upd_same] at q
        rw [hb, hw]
        exact q
      · rw [upd_ne hb] at q
        exact s b o hb q
    exact k v G1 α1 H' g1 (a1.trans w2.1) (w2.2.same s2) (flat_dat hfl hres)⟩
end
section
variable {X : Cx} {a : Expr} {S S1 : DSt} {pos pos2 p p2 : Pos} {n : Nat}
theorem de_tupRg (hc : X.calm = true) (hm : X.mg "tuple" = none) (hm2 : X.mg "range" = none) (ha : DE X a S (.dat (.int n)) S1) (hn : n ≤ 1000000) (hg : Gl X "tuple" := by rfl) (hg2 : Gl X "range" := by rfl)
    (he2 : starEach [a] X.env = (false, eval a X.env) :: starEach [] X.env := by rfl) (he : starEach [.Call (.Name "range" p2) [a] [] pos2] X.env = (false, eval (.Call (.Name "range" p2) [a] [] pos2) X.env) :: starEach [] X.env := by rfl) : DE X (.Call (.Name "tuple" p) [.Call (.Name "range" p2) [a] [] pos2] [] pos) S (.dat (.tup (rngN n))) S1 :=
  PE.wk (pe_tupRg hc hg hm (prg_1 hg2 hm2 ha he2) he) fun σ H Q ⟨F, G, α, R, k⟩ => ⟨F, G, α, R, fun v G1 α1 H1 g1 a1 R1 uv => ⟨n, of_int uv, ⟨by omega, by omega, by omega, by omega, by omega⟩, fun q hq => by
    obtain ⟨g2, R2⟩ := R1.dat (o := .tup (rgV 0 n)) hq (R1.apart hq)
    exact k _ _ α1 _ (g1.trans g2) a1 R2 (Dat.tup upd_same (dats_rg n))⟩⟩
end
/-! ### repr of an int, of a text; texts of lists -/
section
variable {X : Cx} {a : Expr} {S S1 : DSt} {pos p : Pos}
theorem de_reprI {i : Int} (hi : i.natAbs ≤ 1000) (hm : X.mg "repr" = none) (ha : DE X a S (.dat (.int i)) S1) (hg : Gl X "repr" := by rfl) (he : starEach [a] X.env = (false, eval a X.env) :: starEach [] X.env := by rfl) : DE X (.Call (.Name "repr" p) [a] [] pos) S (.dat (.str (reprD (.int i)))) S1 :=
  de_callB (r := fun xs H Q => xs = [.int i] ∧ Q (.str (reprD (.int i))) H) (fun pins s σ H xs us Q I r ⟨e, q⟩ => by
    subst e
    obtain ⟨u, rfl, rx⟩ := vals1 r
    obtain ⟨t, rfl⟩ := (show ∃ t, u = Value.int i t from rx)
    have : i.natAbs.log2 ≤ i.natAbs := Nat.log2_le_self _
    exact PySem.P.repr_of_int (by omega) ⟨.str _, H, I.tok _, ⟨_, rfl⟩, q⟩) hm PyProof.Rows.boot_repr (da_cons ha da_nil he) (fun F G α σ H vs Q R hvs k => by
    obtain ⟨v, r', rfl, h1, h2⟩ := hvs
    have e : r' = [] := h2
    subst e
    have e2 := of_int h1
    subst e2
    exact ⟨rfl, k _ G α H .refl .refl R (.str _)⟩) hg (by decide) (by decide) he
theorem de_reprS {x : Str} (hx : (reprText x).length ≤ 16777216) (hm : X.mg "repr" = none) (ha : DE X a S (.dat (.str x)) S1) (hg : Gl X "repr" := by rfl) (he : starEach [a] X.env = (false, eval a X.env) :: starEach [] X.env := by rfl) : DE X (.Call (.Name "repr" p) [a] [] pos) S (.dat (.str (reprD (.str x)))) S1 :=
  de_callB (r := fun xs H Q => xs = [.str x] ∧ Q (.str (reprD (.str x))) H) (fun pins s σ H xs us Q I r ⟨e, q⟩ => by
    subst e
    obtain ⟨u, rfl, rx⟩ := vals1 r
    obtain ⟨t, rfl⟩ := (show ∃ t, u = Value.str x t from rx)
    exact PySem.P.repr_of_str ⟨.str _, H, I.tok _, ⟨_, rfl⟩, q⟩ (by rw [sizeLine_eq]; exact hx)) hm PyProof.Rows.boot_repr (da_cons ha da_nil he) (fun F G α σ H vs Q R hvs k => by
    obtain ⟨v, r', rfl, h1, h2⟩ := hvs
    have e : r' = [] := h2
    subst e
    have e2 := of_str h1
    subst e2
    exact ⟨rfl, k _ G α H .refl .refl R (.str _)⟩) hg (by decide) (by decide) he
end
theorem strOk_app {a b : Str} (ha : PyData.strOk a = true) (hb : PyData.strOk b = true) : PyData.strOk (a ++ b) = true := by
  unfold PyData.strOk at *
  show (a.cps ++ b.cps).all _ = true
  rw [Array.all_append, ha, hb]
  rfl
theorem strOk_from : ∀ (ts : List Str) (k : Nat) (acc : Str), PyData.strOk acc = true → (∀ t ∈ ts, PyData.strOk t = true) → PyData.strOk (textFrom k acc ts) = true
  | [], _, _, h, _ => h
  | t :: ts, k, acc, h, ht => by
    refine strOk_from ts (k + 1) _ (strOk_app (strOk_app h ?_) (ht t List.mem_cons_self)) fun x hx => ht x (List.mem_cons_of_mem _ hx)
    split <;> decide +kernel
theorem first_from : ∀ (ts : List Str) (k : Nat) (acc : Str) (c : Nat), acc.cps[0]? = some c → (textFrom k acc ts).cps[0]? = some c
  | [], _, _, _, h => h
  | t :: ts, k, acc, c, h => by
    refine first_from ts (k + 1) _ c ?_
    have app : ∀ {a b : Str}, a.cps[0]? = some c → (a ++ b).cps[0]? = some c := fun {a b} e => by
      show (a.cps ++ b.cps)[0]? = some c
      rw [Array.getElem?_append_left (Array.getElem?_eq_some_iff.mp e).1]
      exact e
    exact app (app h)
/-- a list's text begins with a bracket -/
theorem repr_lst_first (ds : List D) : (reprD (.lst ds)).cps[0]? = some 91 := by
  unfold reprD
  simp only [toPy, PyData.shown, listText]
  have h := first_from (PyData.shownAll (toPys ds)) 0 "[" 91 (by decide +kernel)
  show ((textFrom 0 "[" (PyData.shownAll (toPys ds))).cps ++ _)[0]? = _
  rw [Array.getElem?_append_left (Array.getElem?_eq_some_iff.mp h).1]
  exact h
theorem repr_lst_ok (ds : List D) (h : ∀ d ∈ ds, PyData.strOk (reprD d) = true) : PyData.strOk (reprD (.lst ds)) = true := by
  unfold reprD
  simp only [toPy, PyData.shown, listText]
  refine strOk_app (strOk_from _ _ _ (by decide +kernel) fun t ht => ?_) (by decide +kernel)
  rw [shownAll_eq_map, toPys_map, List.map_map] at ht
  obtain ⟨d, hd, rfl⟩ := List.mem_map.mp ht
  exact h d hd
end DL
/-! DHX: checks of own exception classes. -/
namespace DL
open PySem PySem.Spec PyProof.Rows L2
def excKB (x : Str) (bmB : List Value) (newId : String) (K : PySem.W.Frag) : Bool := PySem.W.excInitIn K (He.ga K x) bmB newId && (PySem.W.excOver K (He.ga K x) bmB && (PySem.W.hasDictIn K (He.ga K x) && (He.eqO (PySem.W.findIn K (.ref (He.ga K x)) "__setattr__") (some (some (.builtin "object.__setattr__"))) &&
  (decide (PySem.W.subIn K (.ref (He.ga K x)) (.type "BaseException") = some true) && (decide (PySem.W.typeIn K (.ref (He.ga K x)) = some (.type "type")) && PySem.W.keepIn K (.ref (He.ga K x)))))))
theorem excKB_ok {x : Str} {bmB : List Value} {newId : String} {K : PySem.W.Frag} (c : excKB x bmB newId K = true) : ExcK bmB newId K (He.ga K x) := by
  obtain ⟨c1, c⟩ := He.ba c
  obtain ⟨c2, c⟩ := He.ba c
  obtain ⟨c3, c⟩ := He.ba c
  obtain ⟨c4, c⟩ := He.ba c
  obtain ⟨c5, c⟩ := He.ba c
  obtain ⟨c6, c7⟩ := He.ba c
  exact ⟨c1, c2, c3, He.eqO_ok c4, of_decide_eq_true c5, of_decide_eq_true c6, c7⟩
def excIB (x : Str) (K : PySem.W.Frag) : Bool := He.eqO (PySem.W.findIn K (.ref (He.ga K x)) "__init__") (some (some (.ref (metAd x "__init__" K)))) && decide (PySem.W.typeIn K (.ref (metAd x "__init__" K)) = some (.type "function"))
theorem excIB_ok {x : Str} {K : PySem.W.Frag} (c : excIB x K = true) : PySem.W.findIn K (.ref (He.ga K x)) "__init__" = some (some (.ref (metAd x "__init__" K))) ∧ PySem.W.typeIn K (.ref (metAd x "__init__" K)) = some (.type "function") :=
  ⟨He.eqO_ok (He.ba c).1, of_decide_eq_true (He.ba c).2⟩
def basIB (x : Str) (initId : String) (K : PySem.W.Frag) : Bool := PySem.W.readsIn K (He.ga K x) (.type "type") && (He.eqO (PySem.W.specialIn K (.ref (He.ga K x)) "__getattribute__") (some (some (.builtin "type.__getattribute__"))) && (match PySem.W.findCls K (.ref (He.ga K x)) (.type "type") "__init__" with
  | some (.val v) => decide (v = .builtin initId)
  | _ => false))
theorem basIB_ok {x : Str} {initId : String} {K : PySem.W.Frag} (c : basIB x initId K = true) : BaseI K (He.ga K x) initId := by
  obtain ⟨c1, c⟩ := He.ba c
  obtain ⟨c2, c3⟩ := He.ba c
  refine ⟨c1, He.eqO_ok c2, ?_⟩
  split at c3
  · rename_i v e
    rw [e, of_decide_eq_true c3]
  · cases c3
def freeF (x f : Str) (K : PySem.W.Frag) : Bool := He.eqO (PySem.W.findIn K (.ref (He.ga K x)) f) (some none)
def xfBx (x : Str) (K : PySem.W.Frag) : Bool := xfB K (He.ga K x)
def exmB (x : Str) (K : PySem.W.Frag) : Bool := decide (PySem.W.exmOne K (.ref (He.ga K x)) (.ref (He.ga K x)) = some true)
end DL
namespace K82
open PySem PySem.Spec PyProof.Rows L2 DL
def top (i : Nat) : Stmt := PySem.Challenge.pw_wirewords_k82_whole_resets_or_apart.main.body.getD i (.Pass ⟨0, 0, 0, 0⟩)
abbrev s_is_integer : Stmt := top 9
abbrev p_is_integer : List Str := ["value"]
abbrev n_is_integer : List Str := ["value"]
theorem sc_is_integer : FnScope n_is_integer p_is_integer (defScope s_is_integer) := ⟨rfl, rfl, rfl, by decide +kernel, rfl, by decide +kernel, by decide +kernel⟩
abbrev s_is_count : Stmt := top 10
abbrev p_is_count : List Str := ["value"]
abbrev n_is_count : List Str := ["value"]
theorem sc_is_count : FnScope n_is_count p_is_count (defScope s_is_count) := ⟨rfl, rfl, rfl, by decide +kernel, rfl, by decide +kernel, by decide +kernel⟩
abbrev s_is_bit : Stmt := top 11
abbrev p_is_bit : List Str := ["value"]
abbrev n_is_bit : List Str := ["value"]
theorem sc_is_bit : FnScope n_is_bit p_is_bit (defScope s_is_bit) := ⟨rfl, rfl, rfl, by decide +kernel, rfl, by decide +kernel, by decide +kernel⟩
abbrev s_is_list : Stmt := top 12
abbrev p_is_list : List Str := ["value"]
abbrev n_is_list : List Str := ["value"]
theorem sc_is_list : FnScope n_is_list p_is_list (defScope s_is_list) := ⟨rfl, rfl, rfl, by decide +kernel, rfl, by decide +kernel, by decide +kernel⟩
abbrev s_is_letter : Stmt := top 13
abbrev p_is_letter : List Str := ["value", "width"]
abbrev n_is_letter : List Str := ["value", "width", "bit"]
theorem sc_is_letter : FnScope n_is_letter p_is_letter (defScope s_is_letter) := ⟨rfl, rfl, rfl, by decide +kernel, rfl, by decide +kernel, by decide +kernel⟩
abbrev s_is_word : Stmt := top 14
abbrev p_is_word : List Str := ["value", "width"]
abbrev n_is_word : List Str := ["value", "width", "letter"]
theorem sc_is_word : FnScope n_is_word p_is_word (defScope s_is_word) := ⟨rfl, rfl, rfl, by decide +kernel, rfl, by decide +kernel, by decide +kernel⟩
abbrev s_all_letters : Stmt := top 15
abbrev p_all_letters : List Str := ["width"]
abbrev n_all_letters : List Str := ["width", "found", "turn", "letter", "bit"]
theorem sc_all_letters : FnScope n_all_letters p_all_letters (defScope s_all_letters) := ⟨rfl, rfl, rfl, by decide +kernel, rfl, by decide +kernel, by decide +kernel⟩
abbrev s_want_width : Stmt := top 18
abbrev p_want_width : List Str := ["value"]
abbrev n_want_width : List Str := ["value"]
theorem sc_want_width : FnScope n_want_width p_want_width (defScope s_want_width) := ⟨rfl, rfl, rfl, by decide +kernel, rfl, by decide +kernel, by decide +kernel⟩
abbrev s_is_goal : Stmt := top 19
abbrev p_is_goal : List Str := ["value", "states", "out_width"]
abbrev n_is_goal : List Str := ["value", "states", "out_width"]
theorem sc_is_goal : FnScope n_is_goal p_is_goal (defScope s_is_goal) := ⟨rfl, rfl, rfl, by decide +kernel, rfl, by decide +kernel, by decide +kernel⟩
abbrev s_are_goals : Stmt := top 20
abbrev p_are_goals : List Str := ["value", "many", "states", "out_width"]
abbrev n_are_goals : List Str := ["value", "many", "states", "out_width", "goal"]
theorem sc_are_goals : FnScope n_are_goals p_are_goals (defScope s_are_goals) := ⟨rfl, rfl, rfl, by decide +kernel, rfl, by decide +kernel, by decide +kernel⟩
abbrev s_want_rows : Stmt := top 21
abbrev p_want_rows : List Str := ["width", "out_width", "rows"]
abbrev n_want_rows : List Str := ["width", "out_width", "rows", "position", "row"]
theorem sc_want_rows : FnScope n_want_rows p_want_rows (defScope s_want_rows) := ⟨rfl, rfl, rfl, by decide +kernel, rfl, by decide +kernel, by decide +kernel⟩
abbrev s_number_of : Stmt := top 22
abbrev p_number_of : List Str := ["letter"]
abbrev n_number_of : List Str := ["letter", "found", "bit"]
theorem sc_number_of : FnScope n_number_of p_number_of (defScope s_number_of) := ⟨rfl, rfl, rfl, by decide +kernel, rfl, by decide +kernel, by decide +kernel⟩
abbrev s_is_state_of : Stmt := top 27
abbrev p_is_state_of : List Str := ["machine", "value"]
abbrev n_is_state_of : List Str := ["machine", "value"]
theorem sc_is_state_of : FnScope n_is_state_of p_is_state_of (defScope s_is_state_of) := ⟨rfl, rfl, rfl, by decide +kernel, rfl, by decide +kernel, by decide +kernel⟩
abbrev s_is_lot : Stmt := top 28
abbrev p_is_lot : List Str := ["machine", "value"]
abbrev n_is_lot : List Str := ["machine", "value", "one", "other", "state"]
theorem sc_is_lot : FnScope n_is_lot p_is_lot (defScope s_is_lot) := ⟨rfl, rfl, rfl, by decide +kernel, rfl, by decide +kernel, by decide +kernel⟩
abbrev s_want_few_states : Stmt := top 29
abbrev p_want_few_states : List Str := ["machine"]
abbrev n_want_few_states : List Str := ["machine"]
theorem sc_want_few_states : FnScope n_want_few_states p_want_few_states (defScope s_want_few_states) := ⟨rfl, rfl, rfl, by decide +kernel, rfl, by decide +kernel, by decide +kernel⟩
abbrev s_moves_of : Stmt := top 30
abbrev p_moves_of : List Str := ["machine"]
abbrev n_moves_of : List Str := ["machine", "own", "place", "letter", "row"]
theorem sc_moves_of : FnScope n_moves_of p_moves_of (defScope s_moves_of) := ⟨rfl, rfl, rfl, by decide +kernel, rfl, by decide +kernel, by decide +kernel⟩
abbrev s_all_states : Stmt := top 31
abbrev p_all_states : List Str := ["machine"]
abbrev n_all_states : List Str := ["machine"]
theorem sc_all_states : FnScope n_all_states p_all_states (defScope s_all_states) := ⟨rfl, rfl, rfl, by decide +kernel, rfl, by decide +kernel, by decide +kernel⟩
abbrev s_next_lot : Stmt := top 32
abbrev p_next_lot : List Str := ["moves", "lot", "letter"]
abbrev n_next_lot : List Str := ["moves", "lot", "letter", "state"]
theorem sc_next_lot : FnScope n_next_lot p_next_lot (defScope s_next_lot) := ⟨rfl, rfl, rfl, by decide +kernel, rfl, by decide +kernel, by decide +kernel⟩
abbrev s_led_by : Stmt := top 33
abbrev p_led_by : List Str := ["moves", "lot", "word"]
abbrev n_led_by : List Str := ["moves", "lot", "word", "found", "letter"]
theorem sc_led_by : FnScope n_led_by p_led_by (defScope s_led_by) := ⟨rfl, rfl, rfl, by decide +kernel, rfl, by decide +kernel, by decide +kernel⟩
abbrev s_words_to_lots : Stmt := top 34
abbrev p_words_to_lots : List Str := ["moves", "lot", "most"]
abbrev n_words_to_lots : List Str := ["moves", "lot", "most", "found", "waiting", "here", "letter", "later"]
theorem sc_words_to_lots : FnScope n_words_to_lots p_words_to_lots (defScope s_words_to_lots) := ⟨rfl, rfl, rfl, by decide +kernel, rfl, by decide +kernel, by decide +kernel⟩
abbrev s_word_together : Stmt := top 35
abbrev p_word_together : List Str := ["found"]
abbrev n_word_together : List Str := ["found", "lot", "word"]
theorem sc_word_together : FnScope n_word_together p_word_together (defScope s_word_together) := ⟨rfl, rfl, rfl, by decide +kernel, rfl, by decide +kernel, by decide +kernel⟩
abbrev s_meeting_by : Stmt := top 36
abbrev p_meeting_by : List Str := ["machine", "state", "other"]
abbrev n_meeting_by : List Str := ["machine", "state", "other"]
theorem sc_meeting_by : FnScope n_meeting_by p_meeting_by (defScope s_meeting_by) := ⟨rfl, rfl, rfl, by decide +kernel, rfl, by decide +kernel, by decide +kernel⟩
abbrev s_pair_behind : Stmt := top 37
abbrev p_pair_behind : List Str := ["moves", "pair", "letter"]
abbrev n_pair_behind : List Str := ["moves", "pair", "letter", "one", "other", "state"]
theorem sc_pair_behind : FnScope n_pair_behind p_pair_behind (defScope s_pair_behind) := ⟨rfl, rfl, rfl, by decide +kernel, rfl, by decide +kernel, by decide +kernel⟩
abbrev s_pairs_apart : Stmt := top 38
abbrev p_pairs_apart : List Str := ["machine"]
abbrev n_pairs_apart : List Str := ["machine", "moves", "many", "left", "is_on", "known", "kept", "one", "other", "pair", "letter"]
theorem sc_pairs_apart : FnScope n_pairs_apart p_pairs_apart (defScope s_pairs_apart) := ⟨rfl, rfl, rfl, by decide +kernel, rfl, by decide +kernel, by decide +kernel⟩
abbrev s_apart : Stmt := top 39
abbrev p_apart : List Str := ["machine"]
abbrev n_apart : List Str := ["machine", "left"]
theorem sc_apart : FnScope n_apart p_apart (defScope s_apart) := ⟨rfl, rfl, rfl, by decide +kernel, rfl, by decide +kernel, by decide +kernel⟩
abbrev s_is_pair_of : Stmt := top 40
abbrev p_is_pair_of : List Str := ["machine", "value"]
abbrev n_is_pair_of : List Str := ["machine", "value"]
theorem sc_is_pair_of : FnScope n_is_pair_of p_is_pair_of (defScope s_is_pair_of) := ⟨rfl, rfl, rfl, by decide +kernel, rfl, by decide +kernel, by decide +kernel⟩
abbrev s_is_apart : Stmt := top 41
abbrev p_is_apart : List Str := ["machine", "value"]
abbrev n_is_apart : List Str := ["machine", "value", "moves", "known", "pair", "letter"]
theorem sc_is_apart : FnScope n_is_apart p_is_apart (defScope s_is_apart) := ⟨rfl, rfl, rfl, by decide +kernel, rfl, by decide +kernel, by decide +kernel⟩
abbrev s_reset : Stmt := top 42
abbrev p_reset : List Str := ["machine"]
abbrev n_reset : List Str := ["machine", "found"]
theorem sc_reset : FnScope n_reset p_reset (defScope s_reset) := ⟨rfl, rfl, rfl, by decide +kernel, rfl, by decide +kernel, by decide +kernel⟩
abbrev s_any_reset : Stmt := top 43
abbrev p_any_reset : List Str := ["machine"]
abbrev n_any_reset : List Str := ["machine", "moves", "lot", "found", "word"]
theorem sc_any_reset : FnScope n_any_reset p_any_reset (defScope s_any_reset) := ⟨rfl, rfl, rfl, by decide +kernel, rfl, by decide +kernel, by decide +kernel⟩
abbrev s_is_reset : Stmt := top 44
abbrev p_is_reset : List Str := ["machine", "value"]
abbrev n_is_reset : List Str := ["machine", "value"]
theorem sc_is_reset : FnScope n_is_reset p_is_reset (defScope s_is_reset) := ⟨rfl, rfl, rfl, by decide +kernel, rfl, by decide +kernel, by decide +kernel⟩
abbrev s_law_pot : Stmt := top 46
abbrev p_law_pot : List Str := ["_law_script", "_law_k"]
abbrev n_law_pot : List Str := ["_law_script", "_law_k", "_law_cell"]
theorem sc_law_pot : FnScope n_law_pot p_law_pot (defScope s_law_pot) := ⟨rfl, rfl, rfl, by decide +kernel, rfl, by decide +kernel, by decide +kernel⟩
abbrev s_law_draw : Stmt := top 47
abbrev p_law_draw : List Str := ["_law_pot_here", "_law_size"]
abbrev n_law_draw : List Str := ["_law_pot_here", "_law_size", "_law_digit"]
theorem sc_law_draw : FnScope n_law_draw p_law_draw (defScope s_law_draw) := ⟨rfl, rfl, rfl, by decide +kernel, rfl, by decide +kernel, by decide +kernel⟩
abbrev s_law_pick : Stmt := top 48
abbrev p_law_pick : List Str := ["_law_pot_here", "_law_some"]
abbrev n_law_pick : List Str := ["_law_pot_here", "_law_some"]
theorem sc_law_pick : FnScope n_law_pick p_law_pick (defScope s_law_pick) := ⟨rfl, rfl, rfl, by decide +kernel, rfl, by decide +kernel, by decide +kernel⟩
abbrev s_law_mixed : Stmt := top 49
abbrev p_law_mixed : List Str := ["_law_pot_here", "_law_some"]
abbrev n_law_mixed : List Str := ["_law_pot_here", "_law_some", "_law_rest", "_law_found"]
theorem sc_law_mixed : FnScope n_law_mixed p_law_mixed (defScope s_law_mixed) := ⟨rfl, rfl, rfl, by decide +kernel, rfl, by decide +kernel, by decide +kernel⟩
abbrev s_law_letters : Stmt := top 50
abbrev p_law_letters : List Str := ["_law_width"]
abbrev n_law_letters : List Str := ["_law_width", "_law_found", "_law_turn", "_law_letter"]
theorem sc_law_letters : FnScope n_law_letters p_law_letters (defScope s_law_letters) := ⟨rfl, rfl, rfl, by decide +kernel, rfl, by decide +kernel, by decide +kernel⟩
abbrev s_law_rows : Stmt := top 51
abbrev p_law_rows : List Str := ["_law_pot_here", "_law_many", "_law_width", "_law_outs"]
abbrev n_law_rows : List Str := ["_law_pot_here", "_law_many", "_law_width", "_law_outs", "_law_way", "_law_columns", "_law_found", "_law_at", "_law_goals", "_law_state", "_law_row", "_law_out"]
theorem sc_law_rows : FnScope n_law_rows p_law_rows (defScope s_law_rows) := ⟨rfl, rfl, rfl, by decide +kernel, rfl, by decide +kernel, by decide +kernel⟩
abbrev s_law_model : Stmt := top 52
abbrev p_law_model : List Str := ["_law_pot_here", "_law_most"]
abbrev n_law_model : List Str := ["_law_pot_here", "_law_most", "_law_width", "_law_outs"]
theorem sc_law_model : FnScope n_law_model p_law_model (defScope s_law_model) := ⟨rfl, rfl, rfl, by decide +kernel, rfl, by decide +kernel, by decide +kernel⟩
abbrev s_law_made : Stmt := top 53
abbrev p_law_made : List Str := ["_law_model_here"]
abbrev n_law_made : List Str := ["_law_model_here"]
theorem sc_law_made : FnScope n_law_made p_law_made (defScope s_law_made) := ⟨rfl, rfl, rfl, by decide +kernel, rfl, by decide +kernel, by decide +kernel⟩
abbrev s_law_goal : Stmt := top 54
abbrev p_law_goal : List Str := ["_law_model_here", "_law_state", "_law_letter"]
abbrev n_law_goal : List Str := ["_law_model_here", "_law_state", "_law_letter"]
theorem sc_law_goal : FnScope n_law_goal p_law_goal (defScope s_law_goal) := ⟨rfl, rfl, rfl, by decide +kernel, rfl, by decide +kernel, by decide +kernel⟩
abbrev s_law_run : Stmt := top 55
abbrev p_law_run : List Str := ["_law_model_here", "_law_state", "_law_word_here"]
abbrev n_law_run : List Str := ["_law_model_here", "_law_state", "_law_word_here", "_law_here", "_law_found", "_law_letter", "_law_out"]
theorem sc_law_run : FnScope n_law_run p_law_run (defScope s_law_run) := ⟨rfl, rfl, rfl, by decide +kernel, rfl, by decide +kernel, by decide +kernel⟩
abbrev s_law_word : Stmt := top 56
abbrev p_law_word : List Str := ["_law_pot_here", "_law_letters_here", "_law_most"]
abbrev n_law_word : List Str := ["_law_pot_here", "_law_letters_here", "_law_most", "_law_turn"]
theorem sc_law_word : FnScope n_law_word p_law_word (defScope s_law_word) := ⟨rfl, rfl, rfl, by decide +kernel, rfl, by decide +kernel, by decide +kernel⟩
abbrev s_law_lot_behind : Stmt := top 57
abbrev p_law_lot_behind : List Str := ["_law_model_here", "_law_lot", "_law_word_here"]
abbrev n_law_lot_behind : List Str := ["_law_model_here", "_law_lot", "_law_word_here", "_law_state"]
theorem sc_law_lot_behind : FnScope n_law_lot_behind p_law_lot_behind (defScope s_law_lot_behind) := ⟨rfl, rfl, rfl, by decide +kernel, rfl, by decide +kernel, by decide +kernel⟩
abbrev s_law_reset : Stmt := top 58
abbrev p_law_reset : List Str := ["_law_model_here"]
abbrev n_law_reset : List Str := ["_law_model_here", "_law_first", "_law_waiting", "_law_met", "_law_lot", "_law_word_here", "_law_letter", "_law_later", "_law_state"]
theorem sc_law_reset : FnScope n_law_reset p_law_reset (defScope s_law_reset) := ⟨rfl, rfl, rfl, by decide +kernel, rfl, by decide +kernel, by decide +kernel⟩
abbrev s_law_is_reset : Stmt := top 59
abbrev p_law_is_reset : List Str := ["_law_model_here", "_law_value"]
abbrev n_law_is_reset : List Str := ["_law_model_here", "_law_value", "_law_names", "_law_letter"]
theorem sc_law_is_reset : FnScope n_law_is_reset p_law_is_reset (defScope s_law_is_reset) := ⟨rfl, rfl, rfl, by decide +kernel, rfl, by decide +kernel, by decide +kernel⟩
abbrev s_law_values : Stmt := top 60
abbrev p_law_values : List Str := ["_law_pot_here", "_law_model_here", "_law_some"]
abbrev n_law_values : List Str := ["_law_pot_here", "_law_model_here", "_law_some", "_law_found", "_law_turn", "_law_letter", "_law_bit"]
theorem sc_law_values : FnScope n_law_values p_law_values (defScope s_law_values) := ⟨rfl, rfl, rfl, by decide +kernel, rfl, by decide +kernel, by decide +kernel⟩
abbrev s_law_values_right : Stmt := top 61
abbrev p_law_values_right : List Str := ["_law_pot_here", "_law_model_here", "_law_machine", "_law_some"]
abbrev n_law_values_right : List Str := ["_law_pot_here", "_law_model_here", "_law_machine", "_law_some", "_law_value", "_law_so"]
theorem sc_law_values_right : FnScope n_law_values_right p_law_values_right (defScope s_law_values_right) := ⟨rfl, rfl, rfl, by decide +kernel, rfl, by decide +kernel, by decide +kernel⟩
abbrev s_law_one_right : Stmt := top 62
abbrev p_law_one_right : List Str := ["_law_pot_here", "_law_model_here"]
abbrev n_law_one_right : List Str := ["_law_pot_here", "_law_model_here", "_law_machine", "_law_due", "_law_shown", "_law_told", "_law_some", "_law_other", "_law_pairs"]
theorem sc_law_one_right : FnScope n_law_one_right p_law_one_right (defScope s_law_one_right) := ⟨rfl, rfl, rfl, by decide +kernel, rfl, by decide +kernel, by decide +kernel⟩
abbrev s_law_round : Stmt := top 63
abbrev p_law_round : List Str := ["_law_many"]
abbrev n_law_round : List Str := ["_law_many", "_law_rows_here", "_law_state"]
theorem sc_law_round : FnScope n_law_round p_law_round (defScope s_law_round) := ⟨rfl, rfl, rfl, by decide +kernel, rfl, by decide +kernel, by decide +kernel⟩
abbrev s_law_known_right : Stmt := top 64
abbrev p_law_known_right : List Str := ["_law_pot_here"]
abbrev n_law_known_right : List Str := ["_law_pot_here", "_law_many", "_law_model_here", "_law_machine", "_law_word_here", "_law_wide", "_law_base", "_law_broad", "_law_row"]
theorem sc_law_known_right : FnScope n_law_known_right p_law_known_right (defScope s_law_known_right) := ⟨rfl, rfl, rfl, by decide +kernel, rfl, by decide +kernel, by decide +kernel⟩
abbrev s_law_heard : Stmt := top 65
abbrev p_law_heard : List Str := ["_law_machine"]
abbrev n_law_heard : List Str := ["_law_machine", "_law_told", "e"]
theorem sc_law_heard : FnScope n_law_heard p_law_heard (defScope s_law_heard) := ⟨rfl, rfl, rfl, by decide +kernel, rfl, by decide +kernel, by decide +kernel⟩
abbrev s_law_right : Stmt := top 66
abbrev p_law_right : List Str := ["_law_pot_here"]
abbrev n_law_right : List Str := ["_law_pot_here"]
theorem sc_law_right : FnScope n_law_right p_law_right (defScope s_law_right) := ⟨rfl, rfl, rfl, by decide +kernel, rfl, by decide +kernel, by decide +kernel⟩
abbrev s_law : Stmt := top 67
abbrev p_law : List Str := ["_law_script"]
abbrev n_law : List Str := ["_law_script", "_law_k"]
theorem sc_law : FnScope n_law p_law (defScope s_law) := ⟨rfl, rfl, rfl, by decide +kernel, rfl, by decide +kernel, by decide +kernel⟩
abbrev s_Cinit : Stmt := inClass (top 23) 1
abbrev p_Cinit : List Str := ["self", "width", "out_width", "rows"]
abbrev n_Cinit : List Str := ["self", "width", "out_width", "rows", "row"]
theorem sc_Cinit : FnScope n_Cinit p_Cinit (defScope s_Cinit) := ⟨rfl, rfl, rfl, by decide +kernel, rfl, by decide +kernel, by decide +kernel⟩
abbrev s_Cwidth : Stmt := inClass (top 23) 3
abbrev p_Cwidth : List Str := ["self"]
abbrev n_Cwidth : List Str := ["self"]
theorem sc_Cwidth : FnScope n_Cwidth p_Cwidth (defScope s_Cwidth) := ⟨rfl, rfl, rfl, by decide +kernel, rfl, by decide +kernel, by decide +kernel⟩
abbrev s_Cout_width : Stmt := inClass (top 23) 4
abbrev p_Cout_width : List Str := ["self"]
abbrev n_Cout_width : List Str := ["self"]
theorem sc_Cout_width : FnScope n_Cout_width p_Cout_width (defScope s_Cout_width) := ⟨rfl, rfl, rfl, by decide +kernel, rfl, by decide +kernel, by decide +kernel⟩
abbrev s_Cletters : Stmt := inClass (top 23) 5
abbrev p_Cletters : List Str := ["self"]
abbrev n_Cletters : List Str := ["self"]
theorem sc_Cletters : FnScope n_Cletters p_Cletters (defScope s_Cletters) := ⟨rfl, rfl, rfl, by decide +kernel, rfl, by decide +kernel, by decide +kernel⟩
abbrev s_Crows : Stmt := inClass (top 23) 6
abbrev p_Crows : List Str := ["self"]
abbrev n_Crows : List Str := ["self", "row"]
theorem sc_Crows : FnScope n_Crows p_Crows (defScope s_Crows) := ⟨rfl, rfl, rfl, by decide +kernel, rfl, by decide +kernel, by decide +kernel⟩
abbrev s_Cwant_word : Stmt := inClass (top 23) 8
abbrev p_Cwant_word : List Str := ["self", "word"]
abbrev n_Cwant_word : List Str := ["self", "word"]
theorem sc_Cwant_word : FnScope n_Cwant_word p_Cwant_word (defScope s_Cwant_word) := ⟨rfl, rfl, rfl, by decide +kernel, rfl, by decide +kernel, by decide +kernel⟩
abbrev s_Cgoal : Stmt := inClass (top 23) 9
abbrev p_Cgoal : List Str := ["self", "state", "letter"]
abbrev n_Cgoal : List Str := ["self", "state", "letter"]
theorem sc_Cgoal : FnScope n_Cgoal p_Cgoal (defScope s_Cgoal) := ⟨rfl, rfl, rfl, by decide +kernel, rfl, by decide +kernel, by decide +kernel⟩
abbrev s_Cplayed : Stmt := inClass (top 23) 11
abbrev p_Cplayed : List Str := ["self", "state", "word"]
abbrev n_Cplayed : List Str := ["self", "state", "word", "told", "letter", "output"]
theorem sc_Cplayed : FnScope n_Cplayed p_Cplayed (defScope s_Cplayed) := ⟨rfl, rfl, rfl, by decide +kernel, rfl, by decide +kernel, by decide +kernel⟩
abbrev s_Cbehind : Stmt := inClass (top 23) 13
abbrev p_Cbehind : List Str := ["self", "word"]
abbrev n_Cbehind : List Str := ["self", "word"]
theorem sc_Cbehind : FnScope n_Cbehind p_Cbehind (defScope s_Cbehind) := ⟨rfl, rfl, rfl, by decide +kernel, rfl, by decide +kernel, by decide +kernel⟩
abbrev s_Clen : Stmt := inClass (top 23) 18
abbrev p_Clen : List Str := ["self"]
abbrev n_Clen : List Str := ["self"]
theorem sc_Clen : FnScope n_Clen p_Clen (defScope s_Clen) := ⟨rfl, rfl, rfl, by decide +kernel, rfl, by decide +kernel, by decide +kernel⟩
abbrev s_Ceq : Stmt := inClass (top 23) 19
abbrev p_Ceq : List Str := ["self", "other"]
abbrev n_Ceq : List Str := ["self", "other"]
theorem sc_Ceq : FnScope n_Ceq p_Ceq (defScope s_Ceq) := ⟨rfl, rfl, rfl, by decide +kernel, rfl, by decide +kernel, by decide +kernel⟩
abbrev s_Crepr : Stmt := inClass (top 23) 20
abbrev p_Crepr : List Str := ["self"]
abbrev n_Crepr : List Str := ["self"]
theorem sc_Crepr : FnScope n_Crepr p_Crepr (defScope s_Crepr) := ⟨rfl, rfl, rfl, by decide +kernel, rfl, by decide +kernel, by decide +kernel⟩
abbrev s_EInvalidWidth : Stmt := inClass (top 3) 0
abbrev p_EInvalidWidth : List Str := ["self", "value"]
abbrev n_EInvalidWidth : List Str := ["self", "value"]
theorem sc_EInvalidWidth : FnScope n_EInvalidWidth p_EInvalidWidth (defScope s_EInvalidWidth) := ⟨rfl, rfl, rfl, by decide +kernel, rfl, by decide +kernel, by decide +kernel⟩
abbrev s_EInvalidWord : Stmt := inClass (top 4) 0
abbrev p_EInvalidWord : List Str := ["self", "value"]
abbrev n_EInvalidWord : List Str := ["self", "value"]
theorem sc_EInvalidWord : FnScope n_EInvalidWord p_EInvalidWord (defScope s_EInvalidWord) := ⟨rfl, rfl, rfl, by decide +kernel, rfl, by decide +kernel, by decide +kernel⟩
abbrev s_EInvalidRows : Stmt := inClass (top 5) 0
abbrev p_EInvalidRows : List Str := ["self", "position"]
abbrev n_EInvalidRows : List Str := ["self", "position"]
theorem sc_EInvalidRows : FnScope n_EInvalidRows p_EInvalidRows (defScope s_EInvalidRows) := ⟨rfl, rfl, rfl, by decide +kernel, rfl, by decide +kernel, by decide +kernel⟩
abbrev s_ETooMany : Stmt := inClass (top 7) 0
abbrev p_ETooMany : List Str := ["self", "what", "limit"]
abbrev n_ETooMany : List Str := ["self", "what", "limit"]
theorem sc_ETooMany : FnScope n_ETooMany p_ETooMany (defScope s_ETooMany) := ⟨rfl, rfl, rfl, by decide +kernel, rfl, by decide +kernel, by decide +kernel⟩
structure Blt (mg : Str → Option Value) : Prop where
  abs : mg "abs" = none
  all : mg "all" = none
  bool : mg "bool" = none
  dict : mg "dict" = none
  divmod : mg "divmod" = none
  enumerate : mg "enumerate" = none
  int : mg "int" = none
  isinstance : mg "isinstance" = none
  len : mg "len" = none
  list : mg "list" = none
  max : mg "max" = none
  min : mg "min" = none
  range : mg "range" = none
  repr : mg "repr" = none
  set : mg "set" = none
  sorted : mg "sorted" = none
  sum : mg "sum" = none
  tuple : mg "tuple" = none
  zip : mg "zip" = none
structure Mod (K : PySem.W.Frag) (mg : Str → Option Value) : Prop where
  blt : Blt mg
  is_integer : FunX K mg "is_integer" s_is_integer p_is_integer
  is_count : FunX K mg "is_count" s_is_count p_is_count
  is_bit : FunX K mg "is_bit" s_is_bit p_is_bit
  is_list : FunX K mg "is_list" s_is_list p_is_list
  is_letter : FunX K mg "is_letter" s_is_letter p_is_letter
  is_word : FunX K mg "is_word" s_is_word p_is_word
  all_letters : FunX K mg "all_letters" s_all_letters p_all_letters
  want_width : FunX K mg "want_width" s_want_width p_want_width
  is_goal : FunX K mg "is_goal" s_is_goal p_is_goal
  are_goals : FunX K mg "are_goals" s_are_goals p_are_goals
  want_rows : FunX K mg "want_rows" s_want_rows p_want_rows
  number_of : FunX K mg "number_of" s_number_of p_number_of
  is_state_of : FunX K mg "is_state_of" s_is_state_of p_is_state_of
  is_lot : FunX K mg "is_lot" s_is_lot p_is_lot
  want_few_states : FunX K mg "want_few_states" s_want_few_states p_want_few_states
  moves_of : FunX K mg "moves_of" s_moves_of p_moves_of
  all_states : FunX K mg "all_states" s_all_states p_all_states
  next_lot : FunX K mg "next_lot" s_next_lot p_next_lot
  led_by : FunX K mg "led_by" s_led_by p_led_by
  words_to_lots : FunX K mg "words_to_lots" s_words_to_lots p_words_to_lots
  word_together : FunX K mg "word_together" s_word_together p_word_together
  meeting_by : FunX K mg "meeting_by" s_meeting_by p_meeting_by
  pair_behind : FunX K mg "pair_behind" s_pair_behind p_pair_behind
  pairs_apart : FunX K mg "pairs_apart" s_pairs_apart p_pairs_apart
  apart : FunX K mg "apart" s_apart p_apart
  is_pair_of : FunX K mg "is_pair_of" s_is_pair_of p_is_pair_of
  is_apart : FunX K mg "is_apart" s_is_apart p_is_apart
  reset : FunX K mg "reset" s_reset p_reset
  any_reset : FunX K mg "any_reset" s_any_reset p_any_reset
  is_reset : FunX K mg "is_reset" s_is_reset p_is_reset
  law_pot : FunX K mg "_law_pot" s_law_pot p_law_pot
  law_draw : FunX K mg "_law_draw" s_law_draw p_law_draw
  law_pick : FunX K mg "_law_pick" s_law_pick p_law_pick
  law_mixed : FunX K mg "_law_mixed" s_law_mixed p_law_mixed
  law_letters : FunX K mg "_law_letters" s_law_letters p_law_letters
  law_rows : FunX K mg "_law_rows" s_law_rows p_law_rows
  law_model : FunX K mg "_law_model" s_law_model p_law_model
  law_made : FunX K mg "_law_made" s_law_made p_law_made
  law_goal : FunX K mg "_law_goal" s_law_goal p_law_goal
  law_run : FunX K mg "_law_run" s_law_run p_law_run
  law_word : FunX K mg "_law_word" s_law_word p_law_word
  law_lot_behind : FunX K mg "_law_lot_behind" s_law_lot_behind p_law_lot_behind
  law_reset : FunX K mg "_law_reset" s_law_reset p_law_reset
  law_is_reset : FunX K mg "_law_is_reset" s_law_is_reset p_law_is_reset
  law_values : FunX K mg "_law_values" s_law_values p_law_values
  law_values_right : FunX K mg "_law_values_right" s_law_values_right p_law_values_right
  law_one_right : FunX K mg "_law_one_right" s_law_one_right p_law_one_right
  law_round : FunX K mg "_law_round" s_law_round p_law_round
  law_known_right : FunX K mg "_law_known_right" s_law_known_right p_law_known_right
  law_heard : FunX K mg "_law_heard" s_law_heard p_law_heard
  law_right : FunX K mg "_law_right" s_law_right p_law_right
  law : FunX K mg "law" s_law p_law
end K82
namespace K82
open PySem PySem.Spec PyProof.Rows L2 DL
variable {P : Program} {w : World} {K : PySem.W.Frag} {mg : Str → Option Value} {base : Heap}
abbrev CE (P : Program) (w : World) (K : PySem.W.Frag) (mg : Str → Option Value) (base : Heap) (k : Nat) (x : Str) (st : Stmt) (ps : List Str) (R0 : List D → Res → Prop) : Prop := CalE P w K mg base k x st ps (SpP K R0)
/-! ### is_integer, is_count, is_bit, is_list -/
def isInt : D → Bool
  | .int _ => true
  | _ => false
def isCnt : D → Bool
  | .int i => decide (0 ≤ i)
  | _ => false
def okD (d : D) : Prop := tyN d ≠ ""
def R_is_integer (ds : List D) (r : Res) : Prop := ∃ d, ds = [d] ∧ okD d ∧ r = .dat (.bl (isInt d))
abbrev C_is_integer (P : Program) (w : World) (K : PySem.W.Frag) (mg : Str → Option Value) (base : Heap) : Prop := CE P w K mg base 1 "is_integer" s_is_integer p_is_integer R_is_integer
theorem g_is_integer (M : Mod K mg) : C_is_integer P w K mg base := by
  refine calP M.is_integer sc_is_integer 0 (fun ds r h => ?_) fun ds r h f cdv A outer s H hr => ?_
  · obtain ⟨d, rfl, _⟩ := h
    rfl
  · obtain ⟨d, rfl, hd, rfl⟩ := h
    have key : isInt d = (isiT (tyN d) "int" && !isiT (tyN d) "bool") := by cases d <;> first | rfl | exact absurd rfl hd
    rw [key]
    cases h1 : isiT (tyN d) "int" with
    | false => exact runs_ret (de_andF (by rw [← h1]; exact de_isi M.blt.isinstance (de_var 0 rfl) (de_bltn M.blt.int PyProof.Rows.boot_int) (.dat d) hd)) .dat
    | true =>
      exact runs_ret (de_andT (by rw [← h1]; exact de_isi M.blt.isinstance (de_var 0 rfl) (de_bltn M.blt.int PyProof.Rows.boot_int) (.dat d) hd)
        (de_one (de_not (de_isi M.blt.isinstance (de_var 0 rfl) (de_bltn M.blt.bool PyProof.Rows.boot_bool) (.dat d) hd)))) .dat
def R_is_count (ds : List D) (r : Res) : Prop := ∃ d, ds = [d] ∧ okD d ∧ r = .dat (.bl (isCnt d))
abbrev C_is_count (P : Program) (w : World) (K : PySem.W.Frag) (mg : Str → Option Value) (base : Heap) : Prop := CE P w K mg base 2 "is_count" s_is_count p_is_count R_is_count
theorem g_is_count (M : Mod K mg) (c1 : C_is_integer P w K mg base) : C_is_count P w K mg base := by
  refine calP M.is_count sc_is_count 0 (fun ds r h => ?_) fun ds r h f cdv A outer s H hr => ?_
  · obtain ⟨d, rfl, _⟩ := h
    rfl
  · obtain ⟨d, rfl, hd, rfl⟩ := h
    cases h1 : isInt d with
    | false =>
      have e : isCnt d = false := by cases d <;> first | rfl | cases h1
      rw [e]
      exact runs_ret (de_andF (by rw [← h1]; exact de_cP c1 hr (da_cons (de_var 0 rfl) da_nil) ⟨d, rfl, hd, rfl⟩ (.dat _))) .dat
    | true =>
      obtain ⟨i, rfl⟩ : ∃ i, d = .int i := by cases d <;> first | exact ⟨_, rfl⟩ | cases h1
      exact runs_ret (de_andT (de_cP c1 hr (da_cons (de_var 0 rfl) da_nil) ⟨_, rfl, hd, rfl⟩ (.dat _)) (de_one (de_geI (de_var 0 rfl) de_int))) .dat
def isBt (i : Int) : Prop := i = 0 ∨ i = 1
def R_is_bit (ds : List D) (r : Res) : Prop := ∃ i, ds = [.int i] ∧ isBt i ∧ r = .dat (.bl true)
abbrev C_is_bit (P : Program) (w : World) (K : PySem.W.Frag) (mg : Str → Option Value) (base : Heap) : Prop := CE P w K mg base 2 "is_bit" s_is_bit p_is_bit R_is_bit
theorem g_is_bit (M : Mod K mg) (c1 : C_is_integer P w K mg base) : C_is_bit P w K mg base := by
  refine calP M.is_bit sc_is_bit 0 (fun ds r h => ?_) fun ds r h f cdv A outer s H hr => ?_
  · obtain ⟨d, rfl, _⟩ := h
    rfl
  · obtain ⟨i, rfl, hi, rfl⟩ := h
    have q : 0 ≤ i ∧ i ≤ 1 := by unfold isBt at hi; omega
    exact runs_ret (de_andT (de_cP c1 hr (da_cons (de_var 0 rfl) da_nil) ⟨.int i, rfl, ok_int, rfl⟩ (.dat _)) (de_one (de_to (de_chainLe (i := 0) (j := i) (k := 1) de_int (de_var 0 rfl) de_int) (by simp [q.1, q.2])))) .dat
def isSq : D → Bool
  | .lst _ => true
  | .rol _ => true
  | .tup _ => true
  | _ => false
def R_is_list (ds : List D) (r : Res) : Prop := ∃ d, ds = [d] ∧ okD d ∧ r = .dat (.bl (isSq d))
abbrev C_is_list (P : Program) (w : World) (K : PySem.W.Frag) (mg : Str → Option Value) (base : Heap) : Prop := CE P w K mg base 1 "is_list" s_is_list p_is_list R_is_list
theorem g_is_list (M : Mod K mg) : C_is_list P w K mg base := by
  refine calP M.is_list sc_is_list 0 (fun ds r h => ?_) fun ds r h f cdv A outer s H hr => ?_
  · obtain ⟨d, rfl, _⟩ := h
    rfl
  · obtain ⟨d, rfl, hd, rfl⟩ := h
    have key : isSq d = (isiT (tyN d) "list" || isiT (tyN d) "tuple") := by cases d <;> first | rfl | exact absurd rfl hd
    rw [key]
    exact runs_ret (de_isi2 M.blt.isinstance (de_var 0 rfl) (de_tup (da_cons (de_bltn M.blt.list PyProof.Rows.boot_list) (da_cons (de_bltn M.blt.tuple PyProof.Rows.boot_tuple) da_nil))) (.dat d) hd) .dat
/-! ### letters and words -/
def bits (l : List Int) : Prop := ∀ i ∈ l, isBt i
def R_is_letter (ds : List D) (r : Res) : Prop := ∃ l : List Int, ds = [tI l, .int l.length] ∧ bits l ∧ l.length ≤ 4 ∧ r = .dat (.bl true)
abbrev C_is_letter (P : Program) (w : World) (K : PySem.W.Frag) (mg : Str → Option Value) (base : Heap) : Prop := CE P w K mg base 3 "is_letter" s_is_letter p_is_letter R_is_letter
theorem g_is_letter (M : Mod K mg) (c1 : C_is_bit P w K mg base) : C_is_letter P w K mg base := by
  refine calP M.is_letter sc_is_letter 0 (fun ds r h => ?_) fun ds r h f cdv A outer s H hr => ?_
  · obtain ⟨d, rfl, _⟩ := h
    rfl
  · obtain ⟨l, rfl, hl, hz, rfl⟩ := h
    refine runs_ret (de_andT (de_isi M.blt.isinstance (de_var 0 rfl) (de_bltn M.blt.tuple PyProof.Rows.boot_tuple) (.dat _) ok_tup)
      (de_andT (de_to (de_eqI (de_len M.blt.len (de_var 0 rfl) (.tup _)) (de_var 1 rfl)) (by simp))
        (de_one (de_to (de_allLc [("bit", 2)] (T := .one 2) (fun _ => true) rfl M.blt.all sc_is_letter.nd (di_tup (de_var 0 rfl)) (blkOk_by (N := n_is_letter) (sc := defScope s_is_letter) (by decide +kernel)) rfl (fun _ _ _ _ _ => pg_name sc_is_letter.nd rfl (.inl rfl)) (fun d hd => ?_) (by simp; omega)) (by simp))))) .dat
    obtain ⟨i, hi, rfl⟩ := List.mem_map.mp hd
    exact ⟨_, _, rfl, fun _ _ _ _ _ => de_cP c1 hr (da_cons (de_var 2 rfl) da_nil) ⟨i, rfl, hl i hi, rfl⟩ (.dat _), rfl⟩
end K82
namespace K82
open PySem PySem.Spec PyProof.Rows L2 DL
variable {P : Program} {w : World} {K : PySem.W.Frag} {mg : Str → Option Value} {base : Heap}
/-- a word: a list or a tuple of letters -/
def lets (wd : Nat) (xs : List (List Int)) : Prop := ∀ l ∈ xs, bits l ∧ l.length = wd
def sqOf (v : D) (ds : List D) : Prop := v = .lst ds ∨ v = .tup ds
theorem sq_ok {v : D} {ds : List D} (h : sqOf v ds) : okD v := by rcases h with rfl | rfl <;> simp [okD, tyN]
theorem sq_isSq {v : D} {ds : List D} (h : sqOf v ds) : isSq v = true := by rcases h with rfl | rfl <;> rfl
def R_is_word (ds : List D) (r : Res) : Prop := ∃ v xs wd, ds = [v, .int (wd : Nat)] ∧ sqOf v (xs.map tI) ∧ lets wd xs ∧ wd ≤ 4 ∧ xs.length ≤ 1000 ∧ r = .dat (.bl true)
abbrev C_is_word (P : Program) (w : World) (K : PySem.W.Frag) (mg : Str → Option Value) (base : Heap) : Prop := CE P w K mg base 4 "is_word" s_is_word p_is_word R_is_word
theorem g_is_word (M : Mod K mg) (c1 : C_is_list P w K mg base) (c2 : C_is_letter P w K mg base) : C_is_word P w K mg base := by
  refine calP M.is_word sc_is_word 0 (fun ds r h => ?_) fun ds r h f cdv A outer s H hr => ?_
  · obtain ⟨v, xs, wd, rfl, _⟩ := h
    rfl
  · obtain ⟨v, xs, wd, rfl, hv, hl, hw, hz, rfl⟩ := h
    refine runs_ret (de_andT (de_to (de_cP c1 hr (da_cons (de_var 0 rfl) da_nil) ⟨v, rfl, sq_ok hv, rfl⟩ (.dat _)) (by rw [sq_isSq hv]))
      (de_one (de_to (de_allLc [("letter", 2)] (T := .one 2) (fun _ => true) rfl M.blt.all sc_is_word.nd (di_sq (de_var 0 rfl) hv) (blkOk_by (N := n_is_word) (sc := defScope s_is_word) (by decide +kernel)) rfl (fun _ _ _ _ _ => pg_name sc_is_word.nd rfl (.inl rfl)) (fun d hd => ?_) (by simp; omega)) (by simp)))) .dat
    obtain ⟨l, hi, rfl⟩ := List.mem_map.mp hd
    exact ⟨_, _, rfl, fun _ _ _ _ _ => de_cP c2 hr (da_cons (de_var 2 rfl) (da_cons (de_var 1 rfl) da_nil)) ⟨l, by rw [(hl l hi).2], (hl l hi).1, by rw [(hl l hi).2]; exact hw, rfl⟩ (.dat _), rfl⟩
/-! ### all letters -/
def stepL (L : List (List Int)) : List (List Int) := L.flatMap fun l => [l ++ [0], l ++ [1]]
def iterL : Nat → List (List Int) → List (List Int)
  | 0, L => L
  | k + 1, L => iterL k (stepL L)
def allL (wd : Nat) : List (List Int) := iterL wd [[]]
theorem stepL_len (L : List (List Int)) : (stepL L).length = 2 * L.length := by
  unfold stepL
  induction L with
  | nil => rfl
  | cons l L ih => rw [List.flatMap_cons, List.length_append, ih, List.length_cons]; simp; omega
def R_all_letters (ds : List D) (r : Res) : Prop := ∃ wd : Nat, ds = [.int wd] ∧ wd ≤ 4 ∧ r = .dat (.lst ((allL wd).map tI))
abbrev C_all_letters (P : Program) (w : World) (K : PySem.W.Frag) (mg : Str → Option Value) (base : Heap) : Prop := CE P w K mg base 1 "all_letters" s_all_letters p_all_letters R_all_letters
theorem tI_app (l m : List Int) : D.tup (l.map .int ++ m.map .int) = tI (l ++ m) := by rw [tI, List.map_append]
theorem g_all_letters (M : Mod K mg) : C_all_letters P w K mg base := by
  refine calP M.all_letters sc_all_letters 0 (fun ds r h => ?_) fun ds r h f cdv A outer s H hr => ?_
  · obtain ⟨v, rfl, _⟩ := h
    rfl
  · obtain ⟨wd, rfl, hw, rfl⟩ := h
    refine Ex.runs (ex_cons (ds_set (de_lst (da_cons (de_tup da_nil) da_nil) (.dl _)) sc_all_letters.nd (i := 1)) ?_)
    refine ex_for (T := .one 2) (fun ds S => ∃ L t, S = ⟨[some (.dat (.int wd)), some (.dat (.lst (L.map tI))), t, none, none], []⟩ ∧ L.length * 2 ^ ds.length ≤ 16 ∧ (∀ l ∈ L, l.length + ds.length ≤ 4) ∧ iterL ds.length L = allL wd) rfl (di_rng M.blt.range (de_var 0 rfl) (by omega)) (pg_name sc_all_letters.nd rfl (.inl rfl)) ?_ ?_ ?_
    · refine ⟨[[]], none, rfl, ?_, ?_, ?_⟩
      · have : (rngN wd).length = wd := by simp [rngN]
        rw [this]
        have : wd = 0 ∨ wd = 1 ∨ wd = 2 ∨ wd = 3 ∨ wd = 4 := by omega
        rcases this with rfl | rfl | rfl | rfl | rfl <;> decide
      · intro l hl
        rw [List.mem_singleton.mp hl]
        simp [rngN]
        exact hw
      · simp [rngN, allL]
    · rintro d rest S ⟨L, t, rfl, h1, h2, h3⟩
      have p1 : 1 ≤ 2 ^ rest.length := Nat.one_le_two_pow
      have h1' : L.length * (2 ^ rest.length * 2) ≤ 16 := by
        rw [← Nat.pow_succ]
        exact h1
      have h4 : L.length ≤ 8 := by
        have : L.length * 2 ≤ L.length * (2 ^ rest.length * 2) := Nat.mul_le_mul_left _ (by omega)
        omega
      refine ⟨_, rfl, ex_cons (ds_setLc2 (T := .one 3) (T1 := .one 4) (i := 1) (own := [("letter", 3), ("bit", 4)]) (vs1 := [4]) (es := (stepL L).map tI) rfl sc_all_letters.nd (di_lst (de_var 1 rfl)) (blkOk_by (N := n_all_letters) (sc := defScope s_all_letters) (by decide +kernel)) (by decide) rfl rfl
        (fun _ _ _ _ _ => pg_name sc_all_letters.nd rfl (.inl rfl)) (fun _ _ _ _ _ => pg_name sc_all_letters.nd rfl (.inl rfl)) ?_ (.dl _) (by rw [List.length_map]; omega) (sw_true rfl rfl rfl (by decide +kernel))) (ex_nil ⟨stepL L, _, rfl, ?_, ?_, h3⟩)⟩
      · have e : (stepL L).map tI = (L.map tI).flatMap fun d => match d with
          | .tup xs => [.tup (xs ++ [.int 0]), .tup (xs ++ [.int 1])]
          | _ => [] := by
          unfold stepL
          rw [List.map_flatMap, List.flatMap_map]
          congr 1
          funext l
          simp [tI]
        rw [e]
        refine lc2_map fun d hd => ?_
        obtain ⟨l, hl, rfl⟩ := List.mem_map.mp hd
        refine ⟨_, _, _, rfl, fun _ _ _ _ _ => di_tup (de_tup (da_cons de_int (da_cons de_int da_nil))), rfl, by simp, ?_⟩
        have hz : l.length ≤ 4 := by have := h2 l hl; omega
        refine .yes rfl bt_nil (fun _ _ _ _ _ => de_catT (de_var 3 rfl) (de_tup (da_cons (de_var 4 rfl) da_nil)) (by simp; omega)) (.yes rfl bt_nil (fun _ _ _ _ _ => de_catT (de_var 3 rfl) (de_tup (da_cons (de_var 4 rfl) da_nil)) (by simp; omega)) .nil)
      · rw [stepL_len]
        have : 2 * L.length * 2 ^ rest.length = L.length * (2 ^ rest.length * 2) := by rw [Nat.mul_comm 2 L.length, Nat.mul_assoc, Nat.mul_comm 2]
        omega
      · intro l hl
        obtain ⟨l0, h5, h6⟩ := List.mem_flatMap.mp hl
        have := h2 l0 h5
        rw [List.length_cons] at this
        simp at h6
        rcases h6 with rfl | rfl <;> simp <;> omega
    · rintro S ⟨L, t, rfl, h1, h2, h3⟩
      rw [← h3]
      exact ex_ret (de_var 1 rfl) .dat
/-! ### machines: what want_rows looks at -/
abbrev Row := List (Nat × List Int)
def goalD (g : Nat × List Int) : D := .tup [.int (g.1 : Nat), tI g.2]
def rowD (r : Row) : D := .lst (r.map goalD)
def rowT (r : Row) : D := .tup (r.map goalD)
structure RowOk (n cols o : Nat) (r : Row) : Prop where
  len : r.length = cols
  goal : ∀ g ∈ r, g.1 < n ∧ bits g.2 ∧ g.2.length = o
structure RowsOk (wd o : Nat) (rows : List Row) : Prop where
  w4 : wd ≤ 4
  o4 : o ≤ 4
  pos : 0 < rows.length
  most : rows.length ≤ 16
  row : ∀ r ∈ rows, RowOk rows.length (allL wd).length o r
theorem iterL_len : ∀ (k : Nat) (L : List (List Int)), (iterL k L).length = 2 ^ k * L.length
  | 0, L => by simp [iterL]
  | k + 1, L => by
    rw [iterL, iterL_len, stepL_len, Nat.pow_succ, Nat.mul_assoc]
theorem allL_len (wd : Nat) : (allL wd).length = 2 ^ wd := by
  rw [allL, iterL_len]
  simp
theorem allL_16 {wd : Nat} (h : wd ≤ 4) : (allL wd).length ≤ 16 := by
  rw [allL_len]
  have : wd = 0 ∨ wd = 1 ∨ wd = 2 ∨ wd = 3 ∨ wd = 4 := by omega
  rcases this with rfl | rfl | rfl | rfl | rfl <;> decide
def R_want_width (ds : List D) (r : Res) : Prop := ∃ wd : Nat, ds = [.int wd] ∧ wd ≤ 4 ∧ r = .dat .non
abbrev C_want_width (P : Program) (w : World) (K : PySem.W.Frag) (mg : Str → Option Value) (base : Heap) : Prop := CE P w K mg base 3 "want_width" s_want_width p_want_width R_want_width
theorem g_want_width (M : Mod K mg) (hM : ∃ t, mg "MOST_WIDE" = some (.int 4 t)) (c1 : C_is_count P w K mg base) : C_want_width P w K mg base := by
  refine calP M.want_width sc_want_width 0 (fun ds r h => ?_) fun ds r h f cdv A outer s H hr => ?_
  · obtain ⟨v, rfl, _⟩ := h
    rfl
  · obtain ⟨wd, rfl, hw, rfl⟩ := h
    obtain ⟨t, hM⟩ := hM
    refine Ex.runs (ex_ifN (dt_to (DW.dt (dw_orF (dt_to (dt_not (dt_val (de_cP c1 hr (da_cons (de_var 0 rfl) da_nil) ⟨_, rfl, ok_int, rfl⟩ (.dat _)))) ?_) (dw_or1 (dt_gtI (de_var 0 rfl) (de_globI rfl hM))))) ?_) (ex_nil .nx))
    · simp [isCnt]
    · simp; omega
def R_is_goal (ds : List D) (r : Res) : Prop := ∃ (g : Nat × List Int) (n o : Nat), ds = [goalD g, .int n, .int o] ∧ g.1 < n ∧ bits g.2 ∧ g.2.length = o ∧ o ≤ 4 ∧ r = .dat (.bl true)
abbrev C_is_goal (P : Program) (w : World) (K : PySem.W.Frag) (mg : Str → Option Value) (base : Heap) : Prop := CE P w K mg base 4 "is_goal" s_is_goal p_is_goal R_is_goal
theorem g_is_goal (M : Mod K mg) (c1 : C_is_count P w K mg base) (c2 : C_is_letter P w K mg base) : C_is_goal P w K mg base := by
  refine calP M.is_goal sc_is_goal 0 (fun ds r h => ?_) fun ds r h f cdv A outer s H hr => ?_
  · obtain ⟨g, n, o, rfl, _⟩ := h
    rfl
  · obtain ⟨g, n, o, rfl, h1, h2, rfl, h4, rfl⟩ := h
    refine Ex.runs (ex_ifN (DW.dt (dw_orF (dt_to (dt_not (dt_val (de_isi M.blt.isinstance (de_var 0 rfl) (de_bltn M.blt.tuple PyProof.Rows.boot_tuple) (.dat _) ok_tup))) (by rfl))
      (dw_orF (dt_to (dt_neI (de_len M.blt.len (de_var 0 rfl) (.tup _)) de_int) (by rfl)) (dw_or1 (dt_to (dt_not (dt_val (de_cP c1 hr (da_cons (de_ixT (de_var 0 rfl) de_int rfl) da_nil) ⟨_, rfl, ok_int, rfl⟩ (.dat _)))) ?_)))))
      (ex_ret (de_andT (de_to (de_ltI (de_ixT (de_var 0 rfl) de_int rfl) (de_var 1 rfl)) ?_) (de_one (de_cP c2 hr (da_cons (de_ixT (de_var 0 rfl) de_int rfl) (da_cons (de_var 2 rfl) da_nil)) ⟨g.2, rfl, h2, h4, rfl⟩ (.dat _)))) .dat))
    · simp [isCnt]
    · simp [h1]
def R_are_goals (ds : List D) (r : Res) : Prop := ∃ (q : Row) (n cols o : Nat), ds = [rowD q, .int cols, .int n, .int o] ∧ RowOk n cols o q ∧ o ≤ 4 ∧ cols ≤ 16 ∧ r = .dat (.bl true)
abbrev C_are_goals (P : Program) (w : World) (K : PySem.W.Frag) (mg : Str → Option Value) (base : Heap) : Prop := CE P w K mg base 5 "are_goals" s_are_goals p_are_goals R_are_goals
theorem g_are_goals (M : Mod K mg) (c1 : C_is_list P w K mg base) (c2 : C_is_goal P w K mg base) : C_are_goals P w K mg base := by
  refine calP M.are_goals sc_are_goals 0 (fun ds r h => ?_) fun ds r h f cdv A outer s H hr => ?_
  · obtain ⟨g, n, m, o, rfl, _⟩ := h
    rfl
  · obtain ⟨q, n, cols, o, rfl, hq, ho, hc, rfl⟩ := h
    refine runs_ret (de_andT (de_cP c1 hr (da_cons (de_var 0 rfl) da_nil) ⟨_, rfl, ok_lst, rfl⟩ (.dat _))
      (de_andT (de_to (de_eqI (de_len M.blt.len (de_var 0 rfl) (.lst (.dat _))) (de_var 1 rfl)) ?_)
        (de_one (de_to (de_allLc [("goal", 4)] (T := .one 4) (fun _ => true) rfl M.blt.all sc_are_goals.nd (di_lst (de_var 0 rfl)) (blkOk_by (N := n_are_goals) (sc := defScope s_are_goals) (by decide +kernel)) rfl (fun _ _ _ _ _ => pg_name sc_are_goals.nd rfl (.inl rfl)) (fun d hd => ?_) ?_) (by simp))))) .dat
    · simp [hq.len]
    · obtain ⟨g, hg, rfl⟩ := List.mem_map.mp hd
      exact ⟨_, _, rfl, fun _ _ _ _ _ => de_cP c2 hr (da_cons (de_var 4 rfl) (da_cons (de_var 2 rfl) (da_cons (de_var 3 rfl) da_nil))) ⟨g, n, o, rfl, (hq.goal g hg).1, (hq.goal g hg).2.1, (hq.goal g hg).2.2, ho, rfl⟩ (.dat _), rfl⟩
    · simp [hq.len]; omega
def rowsD (rows : List Row) : D := .lst (rows.map rowD)
def R_want_rows (ds : List D) (r : Res) : Prop := ∃ (wd o : Nat) (rows : List Row), ds = [.int wd, .int o, rowsD rows] ∧ RowsOk wd o rows ∧ r = .dat .non
abbrev C_want_rows (P : Program) (w : World) (K : PySem.W.Frag) (mg : Str → Option Value) (base : Heap) : Prop := CE P w K mg base 6 "want_rows" s_want_rows p_want_rows R_want_rows
theorem g_want_rows (M : Mod K mg) (c1 : C_is_list P w K mg base) (c2 : C_are_goals P w K mg base) (c3 : C_all_letters P w K mg base) : C_want_rows P w K mg base := by
  refine calP M.want_rows sc_want_rows 0 (fun ds r h => ?_) fun ds r h f cdv A outer s H hr => ?_
  · obtain ⟨wd, o, rows, rfl, _⟩ := h
    rfl
  · obtain ⟨wd, o, rows, rfl, hR, rfl⟩ := h
    refine Ex.runs (ex_ifN (DW.dt (dw_orF (dt_notF (dt_val (de_cP c1 hr (da_cons (de_var 2 rfl) da_nil) ⟨_, rfl, ok_lst, rfl⟩ (.dat _)))) (dw_or1 (dt_to (dt_eqI (de_len M.blt.len (de_var 2 rfl) (.lst (.dat _))) de_int) ?_)))) ?_)
    · have := hR.pos
      simp
      intro e
      rw [e] at this
      cases this
    refine ex_for (T := .tup [3, 4]) (fun ds S => (∀ d ∈ ds, ∃ i r, d = .tup [.int i, rowD r] ∧ r ∈ rows) ∧ ∃ a b, S = ⟨[some (.dat (.int wd)), some (.dat (.int o)), some (.dat (rowsD rows)), a, b], []⟩) rfl (di_enum M.blt.enumerate (de_var 2 rfl)) (tg_two rfl sc_want_rows.nd) ?_ ?_ ?_
    · refine ⟨fun d hd => ?_, none, none, rfl⟩
      obtain ⟨i, hi⟩ := List.getElem?_of_mem hd
      obtain ⟨e, h1, rfl⟩ := enumFrom_at hi
      obtain ⟨r, h2, rfl⟩ := List.mem_map.mp (List.mem_of_getElem? h1)
      exact ⟨_, r, rfl, h2⟩
    · rintro d rest S ⟨hall, a, b, rfl⟩
      obtain ⟨i, r, rfl, hr2⟩ := hall d List.mem_cons_self
      have hro := hR.row r hr2
      refine ⟨_, rfl, ex_ifN (dt_notF (dt_val (de_cP (ds := [rowD r, .int ((allL wd).map tI).length, .int (rows.map rowD).length, .int o]) c2 hr (da_cons (de_var 4 rfl) (da_cons (de_len M.blt.len (de_cP c3 hr (da_cons (de_var 0 rfl) da_nil) ⟨wd, rfl, hR.w4, rfl⟩ (.dat _)) (.lst (.dat _))) (da_cons (de_len M.blt.len (de_var 2 rfl) (.lst (.dat _))) (da_cons (de_var 1 rfl) da_nil))))
        ⟨r, rows.length, (allL wd).length, o, by simp, hro, hR.o4, allL_16 hR.w4, rfl⟩ (.dat _)))) (ex_nil ⟨fun d hd => hall d (List.mem_cons_of_mem _ hd), _, _, rfl⟩)⟩
    · rintro S ⟨_, a, b, rfl⟩
      exact ex_nil .nx
end K82
namespace K82
open PySem PySem.Spec PyProof.Rows L2 DL
variable {P : Program} {w : World} {K : PySem.W.Frag} {mg : Str → Option Value} {base : Heap}
abbrev fN : List Str := ["own_width", "own_outputs", "own_rows"]
/-- a def of the class by its name -/
def MethX (K : PySem.W.Frag) (C : Addr) (m : Str) (qual : Str) (st : Stmt) (ps : List Str) : Prop := ∃ g fd, Fun K m qual st g fd ∧ Meth K C m g ∧ Binds K fd ps []
def PropX (K : PySem.W.Frag) (C : Addr) (m : Str) (qual : Str) (st : Stmt) (ps : List Str) : Prop := ∃ p g fd, Fun K m qual st g fd ∧ PropOf K C m p g ∧ Binds K fd ps []
structure Mac (K : PySem.W.Frag) (mg : Str → Option Value) (C : Addr) : Prop where
  name : mg "Machine" = some (.ref C)
  isc : IsC K C
  a1 : NoAttr K C "own_width"
  a2 : NoAttr K C "own_outputs"
  a3 : NoAttr K C "own_rows"
  most : ∃ mc w, ClX.CRead K C mc ∧ ClX.CVal K C mc "MOST_STATES" (.int 64) w
  init : ∃ f fd, Fun K "__init__" "Machine.__init__" s_Cinit f fd ∧ Mk K C f ∧ Binds K fd p_Cinit []
  width : PropX K C "width" "Machine.width" s_Cwidth p_Cwidth
  letters : MethX K C "letters" "Machine.letters" s_Cletters p_Cletters
  rows : MethX K C "rows" "Machine.rows" s_Crows p_Crows
  len : MethX K C "__len__" "Machine.__len__" s_Clen p_Clen
  eq : MethX K C "__eq__" "Machine.__eq__" s_Ceq p_Ceq
  repr : MethX K C "__repr__" "Machine.__repr__" s_Crepr p_Crepr
def macD (C : Addr) (wd o : Nat) (rows : List Row) : D := .ins C fN [.int wd, .int o, .tup (rows.map rowT)]
/-! ### __init__ -/
def R_Cinit (ds : List D) (fs : List D) : Prop := ∃ (wd o : Nat) (rows : List Row), ds = [.int wd, .int o, rowsD rows] ∧ RowsOk wd o rows ∧ fs = [.int wd, .int o, .tup (rows.map rowT)]
theorem g_Cinit {C : Addr} (M : Mod K mg) (MC : Mac K mg C) (c1 : C_want_width P w K mg base) (c2 : C_want_rows P w K mg base) {f : Addr} {fd : FuncData} (F : Fun K "__init__" "Machine.__init__" s_Cinit f fd) : FnG P w K mg base 7 f fd p_Cinit (SpI K C fN R_Cinit) := by
  refine fng_init (k := 6) F sc_Cinit 0 (fun ds r h => ?_) fun ds r h cdv A outer s H hr => ?_
  · obtain ⟨wd, o, rows, rfl, _⟩ := h
    rfl
  · obtain ⟨wd, o, rows, rfl, hR, rfl⟩ := h
    obtain ⟨mc, wv, k1, k2⟩ := MC.most
    have key : Ex (BodyX P w K mg base n_Cinit "Machine.__init__" s_Cinit f cdv A outer s H) (defBody s_Cinit) (stI n_Cinit C [.int wd, .int o, rowsD rows] 0) (fun out => ∃ S', out = .nx S' ∧ S'.m[0]? = some (some (.ins C fN [.int wd, .int o, .tup (rows.map rowT)]))) := by
      refine ex_cons (ds_expr (de_cP c1 hr (da_cons (de_var 1 rfl) da_nil) ⟨wd, rfl, hR.w4, rfl⟩ (.dat _))) ?_
      refine ex_cons (ds_expr (de_cP c1 hr (da_cons (de_var 2 rfl) da_nil) ⟨o, rfl, hR.o4, rfl⟩ (.dat _))) ?_
      refine ex_cons (ds_expr (de_cP c2 hr (da_cons (de_var 1 rfl) (da_cons (de_var 2 rfl) (da_cons (de_var 3 rfl) da_nil))) ⟨wd, o, rows, rfl, hR, rfl⟩ (.dat _))) ?_
      refine ex_ifN (dt_to (dt_gtI (de_len M.blt.len (de_var 3 rfl) (.lst (.dat _))) (de_clsI MC.name k1 k2)) ?_) ?_
      · have := hR.most
        simp
        omega
      refine ex_cons (ds_fld2 (n := 0) rfl (de_tup (da_cons (de_var 1 rfl) (da_cons (de_var 2 rfl) da_nil))) (de_var 0 rfl) (de_var 0 rfl) rfl MC.isc.cl MC.a1 MC.a2) ?_
      refine ex_cons (ds_fld (n := 0) (de_tupleL M.blt.tuple (de_lcD (es := rows.map rowT) [("row", 4)] (fun d => match d with
          | .lst xs => .tup xs
          | d => d) (T := .one 4) rfl sc_Cinit.nd (di_lst (de_var 3 rfl)) (blkOk_by (N := n_Cinit) (sc := defScope s_Cinit) (by decide +kernel)) rfl (fun _ _ _ _ _ => pg_name sc_Cinit.nd rfl (.inl rfl)) ?_ (by rw [List.map_map]; rfl) ?_) (.dat _)) (de_var 0 rfl) rfl MC.isc.cl MC.a3) (ex_nil ⟨_, rfl, rfl⟩)
      · refine fun d hd => ?_
        obtain ⟨r, hr2, rfl⟩ := List.mem_map.mp hd
        exact ⟨_, _, rfl, fun _ _ _ _ _ => de_tupleL M.blt.tuple (de_var 4 rfl) (.dat _), rfl⟩
      · have := hR.most
        simp
        omega
    obtain ⟨out, h1, S', rfl, h2⟩ := key
    exact ⟨S', h1, h2⟩
abbrev FG (P : Program) (w : World) (K : PySem.W.Frag) (mg : Str → Option Value) (base : Heap) (k : Nat) (f : Addr) (fd : FuncData) (ps : List Str) (R0 : List D → Res → Prop) : Prop := FnG P w K mg base k f fd ps (SpP K R0)
/-! ### what is read of a machine -/
def R_Cwidth (C : Addr) (ds : List D) (r : Res) : Prop := ∃ (wd o : Nat) (rows : List Row), ds = [macD C wd o rows] ∧ r = .dat (.int wd)
theorem g_Cwidth {C : Addr} (MC : Mac K mg C) {f : Addr} {fd : FuncData} (F : Fun K "width" "Machine.width" s_Cwidth f fd) : FG P w K mg base 1 f fd p_Cwidth (R_Cwidth C) := by
  refine fng_pure (k := 0) F sc_Cwidth 0 (fun ds r h => ?_) fun ds r h cdv A outer s H hr => ?_
  · obtain ⟨wd, o, rows, rfl, _⟩ := h
    rfl
  · obtain ⟨wd, o, rows, rfl, rfl⟩ := h
    exact runs_ret (de_fld (de_var 0 rfl) MC.isc.cl MC.a1 rfl) .dat
def R_Cletters (C : Addr) (ds : List D) (r : Res) : Prop := ∃ (wd o : Nat) (rows : List Row), ds = [macD C wd o rows] ∧ wd ≤ 4 ∧ r = .dat (.lst ((allL wd).map tI))
theorem g_Cletters {C : Addr} (MC : Mac K mg C) (c1 : C_all_letters P w K mg base) {f : Addr} {fd : FuncData} (F : Fun K "letters" "Machine.letters" s_Cletters f fd) : FG P w K mg base 2 f fd p_Cletters (R_Cletters C) := by
  refine fng_pure (k := 1) F sc_Cletters 0 (fun ds r h => ?_) fun ds r h cdv A outer s H hr => ?_
  · obtain ⟨wd, o, rows, rfl, _⟩ := h
    rfl
  · obtain ⟨wd, o, rows, rfl, hw, rfl⟩ := h
    exact runs_ret (de_cP c1 hr (da_cons (de_fld (de_var 0 rfl) MC.isc.cl MC.a1 rfl) da_nil) ⟨wd, rfl, hw, rfl⟩ (.dat _)) .dat
def R_Crows (C : Addr) (ds : List D) (r : Res) : Prop := ∃ (wd o : Nat) (rows : List Row), ds = [macD C wd o rows] ∧ rows.length ≤ 16 ∧ r = .dat (rowsD rows)
theorem g_Crows {C : Addr} (M : Mod K mg) (MC : Mac K mg C) {f : Addr} {fd : FuncData} (F : Fun K "rows" "Machine.rows" s_Crows f fd) : FG P w K mg base 1 f fd p_Crows (R_Crows C) := by
  refine fng_pure (k := 0) F sc_Crows 0 (fun ds r h => ?_) fun ds r h cdv A outer s H hr => ?_
  · obtain ⟨wd, o, rows, rfl, _⟩ := h
    rfl
  · obtain ⟨wd, o, rows, rfl, hz, rfl⟩ := h
    refine runs_ret (de_lcD (es := rows.map rowD) [("row", 1)] (fun d => match d with
      | .tup xs => .lst xs
      | d => d) (T := .one 1) rfl sc_Crows.nd (di_tup (de_fld (de_var 0 rfl) MC.isc.cl MC.a3 rfl)) (blkOk_by (N := n_Crows) (sc := defScope s_Crows) (by decide +kernel)) rfl (fun _ _ _ _ _ => pg_name sc_Crows.nd rfl (.inl rfl)) (fun d hd => ?_) (by rw [List.map_map]; rfl) (by simp; omega)) .dat
    obtain ⟨r, hr2, rfl⟩ := List.mem_map.mp hd
    exact ⟨_, _, rfl, fun _ _ _ _ _ => de_listT M.blt.list (de_var 1 rfl) (.dl _), rfl⟩
def R_Clen (C : Addr) (ds : List D) (r : Res) : Prop := ∃ (wd o : Nat) (rows : List Row), ds = [macD C wd o rows] ∧ r = .dat (.int rows.length)
theorem g_Clen {C : Addr} (M : Mod K mg) (MC : Mac K mg C) {f : Addr} {fd : FuncData} (F : Fun K "__len__" "Machine.__len__" s_Clen f fd) : FG P w K mg base 1 f fd p_Clen (R_Clen C) := by
  refine fng_pure (k := 0) F sc_Clen 0 (fun ds r h => ?_) fun ds r h cdv A outer s H hr => ?_
  · obtain ⟨wd, o, rows, rfl, _⟩ := h
    rfl
  · obtain ⟨wd, o, rows, rfl, rfl⟩ := h
    exact runs_ret (de_to (de_len M.blt.len (de_fld (de_var 0 rfl) MC.isc.cl MC.a3 rfl) (.tup _)) (by simp)) .dat
theorem good_goal (g : Nat × List Int) : good 2 (goalD g) = true := by
  refine good_tup fun d hd => ?_
  simp at hd
  rcases hd with rfl | rfl
  · exact good_int
  · refine good_tup fun d hd => ?_
    obtain ⟨i, _, rfl⟩ := List.mem_map.mp hd
    exact good_int
theorem good_rowT (r : Row) : good 3 (rowT r) = true := by
  refine good_tup fun d hd => ?_
  obtain ⟨g, _, rfl⟩ := List.mem_map.mp hd
  exact good_goal g
theorem good_rows (rows : List Row) : good 60 (.tup (rows.map rowT)) = true := by
  refine good.rise 4 60 _ (by decide) (good_tup fun d hd => ?_)
  obtain ⟨r, _, rfl⟩ := List.mem_map.mp hd
  exact good_rowT r
def R_Ceq (C : Addr) (ds : List D) (r : Res) : Prop := ∃ (wd o : Nat) (rows : List Row), ds = [macD C wd o rows, macD C wd o rows] ∧ r = .dat (.bl true)
theorem exact_tI (l : List Int) : exact (tI l) = true := by
  unfold exact
  exact exacts_all.mpr fun d hd => by
    obtain ⟨i, _, rfl⟩ := List.mem_map.mp hd
    rfl
theorem exact_rows (rows : List Row) : exact (.tup (rows.map rowT)) = true := by
  unfold exact
  refine exacts_all.mpr fun d hd => ?_
  obtain ⟨r, _, rfl⟩ := List.mem_map.mp hd
  show exacts _ = true
  refine exacts_all.mpr fun d hd => ?_
  obtain ⟨g, _, rfl⟩ := List.mem_map.mp hd
  show exacts _ = true
  refine exacts_all.mpr fun d hd => ?_
  simp at hd
  rcases hd with rfl | rfl
  · rfl
  · exact exact_tI _
theorem g_Ceq {C : Addr} (M : Mod K mg) (MC : Mac K mg C) {f : Addr} {fd : FuncData} (F : Fun K "__eq__" "Machine.__eq__" s_Ceq f fd) : FG P w K mg base 1 f fd p_Ceq (R_Ceq C) := by
  refine fng_pure (k := 0) F sc_Ceq 0 (fun ds r h => ?_) fun ds r h cdv A outer s H hr => ?_
  · obtain ⟨wd, o, rows, rfl, _⟩ := h
    rfl
  · obtain ⟨wd, o, rows, rfl, rfl⟩ := h
    have f1 : ∀ (i : Nat), i < 2 → ∀ {x : Str} {p pos : Pos}, True := fun _ _ _ _ _ => trivial
    refine Ex.runs (ex_ifN (DW.dt (dw_orF (dt_notF (dt_val (de_isC MC.isc M.blt.isinstance MC.name (de_var 1 rfl)))) (dw_or1 (dt_to (dt_neI (de_fld (de_var 0 rfl) MC.isc.cl MC.a1 rfl) (de_fld (de_var 1 rfl) MC.isc.cl MC.a1 rfl)) (by simp)))))
      (ex_ret (de_andT (de_to (de_eqI (de_fld (de_var 0 rfl) MC.isc.cl MC.a2 rfl) (de_fld (de_var 1 rfl) MC.isc.cl MC.a2 rfl)) (by simp))
        (de_one (de_to (de_eqD hr.rm.units (de_fld (de_var 0 rfl) MC.isc.cl MC.a3 rfl) (de_fld (de_var 1 rfl) MC.isc.cl MC.a3 rfl) (.dat _) (.dat _) (good_rows rows) (good_rows rows)) ?_))) .dat))
    rw [(eqD_iff _ _ (exact_rows rows) (exact_rows rows)).mpr rfl]
theorem mild_rows {wd o : Nat} {rows : List Row} (h : RowsOk wd o rows) : mild [16, 16, 2, 4] (rowsD rows) = true := by
  refine mild_lst (by rw [List.length_map]; exact h.most) fun d hd => ?_
  obtain ⟨r, hr, rfl⟩ := List.mem_map.mp hd
  have hq := h.row r hr
  refine mild_lst (by rw [List.length_map, hq.len]; exact allL_16 h.w4) fun d hd => ?_
  obtain ⟨g, hg, rfl⟩ := List.mem_map.mp hd
  obtain ⟨h1, h2, h3⟩ := hq.goal g hg
  refine mild_tup (by exact Nat.le_refl 2) fun d hd => ?_
  simp at hd
  rcases hd with rfl | rfl
  · have := h.most
    exact mild_int (by omega)
  · refine mild_tI (by rw [h3]; exact h.o4) fun i hi => ?_
    rcases h2 i hi with rfl | rfl <;> decide
def repS (wd o : Nat) (rows : List Row) : Str := joinS Str.empty ["Machine(", toString (wd : Int), ", ", toString (o : Int), ", ", reprD (rowsD rows), ")"]
def R_Crepr (C : Addr) (ds : List D) (r : Res) : Prop := ∃ (wd o : Nat) (rows : List Row), ds = [macD C wd o rows] ∧ RowsOk wd o rows ∧ r = .dat (.str (repS wd o rows))
theorem small_len : ∀ n : Nat, n ≤ 4 → ((toString (n : Int) : String) : Str).length ≤ 10 := by decide +kernel
theorem g_Crepr {C : Addr} (M : Mod K mg) (MC : Mac K mg C) {f : Addr} {fd : FuncData} (F : Fun K "__repr__" "Machine.__repr__" s_Crepr f fd) : FG P w K mg base 2 f fd p_Crepr (R_Crepr C) := by
  refine fng_pure (k := 1) F sc_Crepr 0 (fun ds r h => ?_) fun ds r h cdv A outer s H hr => ?_
  · obtain ⟨wd, o, rows, rfl, _⟩ := h
    rfl
  · obtain ⟨wd, o, rows, rfl, hR, rfl⟩ := h
    obtain ⟨g, gd, hF, hm, hb⟩ := MC.rows
    have hw := hR.w4
    have ho := hR.o4
    refine runs_ret (de_joined (.cons de_str (.cons (de_fmtI (de_fld (de_var 0 rfl) MC.isc.cl MC.a1 rfl) (by omega)) (.cons de_str (.cons (de_fmtI (de_fld (de_var 0 rfl) MC.isc.cl MC.a2 rfl) (by omega)) (.cons de_str (.cons
      (de_fmtR (r := [16, 16, 2, 4]) hr.gd hr.rm.units (de_meth0 (de_var 0 rfl) MC.isc.cl hm ((g_Crows M MC hF).mono (by decide)) hb hr ⟨wd, o, rows, rfl, hR.most, rfl⟩ (.dat _)) (.dat _) (mild_rows hR)) (.cons de_str .nil))))))) ?_) .dat
    have h1 := small_len wd hw
    have h2 := small_len o ho
    have h3 := mild.len (mild_rows hR)
    have h4 : 15 * wB [16, 16, 2, 4] + 13 ≤ 600000 := by decide
    have e1 : (Str.ofString "Machine(").length = 8 := by decide +kernel
    have e2 : (Str.ofString ", ").length = 2 := by decide +kernel
    have e3 : (Str.ofString ")").length = 1 := by decide +kernel
    simp only [List.map_cons, List.map_nil, List.sum_cons, List.sum_nil, e1, e2, e3]
    omega
end K82
namespace K82
open PySem PySem.Spec PyProof.Rows L2 DL
variable {P : Program} {w : World} {K : PySem.W.Frag} {mg : Str → Option Value} {base : Heap} {C : Addr}
theorem cut1 {α : Type} (xs : List α) : cutA xs (some 1) none = xs.tail := by
  cases xs with
  | nil => rfl
  | cons x xs =>
    have h : min 1 (xs.length + 1) = 1 := by omega
    simp [cutA, HT.sIx, h]
def isSt (n : Nat) : D → Bool
  | .int i => decide (0 ≤ i) && decide (i < (n : Int))
  | _ => false
def lessD : D → Bool
  | .tup [.int a, .int b] => decide (a < b)
  | _ => false
def ascD (ds : List D) : Bool := (zipD ds ds.tail).all lessD
def isLot (n : Nat) : D → Bool
  | .lst ds => !ds.isEmpty && ds.all (isSt n) && ascD ds
  | .tup ds => !ds.isEmpty && ds.all (isSt n) && ascD ds
  | _ => false
/-- a value a def may be handed: what it is can be asked, and of its members too -/
structure okV (v : D) : Prop where
  ok : okD v
  nr : ∀ ds, v ≠ .rol ds
  mem : ∀ ds, sqOf v ds → ds.length ≤ 1000 ∧ ∀ d ∈ ds, okD d
theorem zipD_mem {p : D} : ∀ {ds es : List D}, p ∈ zipD ds es → ∃ d e, d ∈ ds ∧ e ∈ es ∧ p = .tup [d, e]
  | [], es, h => by simp [zipD] at h
  | _ :: _, [], h => by simp [zipD] at h
  | d :: ds, e :: es, h => by
    simp only [zipD, List.mem_cons] at h
    rcases h with rfl | h
    · exact ⟨d, e, List.mem_cons_self, List.mem_cons_self, rfl⟩
    · obtain ⟨d1, e1, h1, h2, h3⟩ := zipD_mem h
      exact ⟨d1, e1, List.mem_cons_of_mem _ h1, List.mem_cons_of_mem _ h2, h3⟩
theorem zipD_len : ∀ {ds es : List D}, (zipD ds es).length ≤ es.length
  | [], es => by simp [zipD]
  | _ :: _, [] => by simp [zipD]
  | d :: ds, e :: es => by
    simp only [zipD, List.length_cons]
    have := zipD_len (ds := ds) (es := es)
    omega
theorem isSt_int {n : Nat} {d : D} (h : isSt n d = true) : ∃ i : Int, d = .int i ∧ 0 ≤ i ∧ i < n := by
  cases d with
  | int i =>
    simp [isSt] at h
    exact ⟨i, rfl, h⟩
  | _ => cases h
def R_is_state_of (C : Addr) (ds : List D) (r : Res) : Prop := ∃ (wd o : Nat) (rows : List Row) (d : D), ds = [macD C wd o rows, d] ∧ rows.length ≤ 16 ∧ okD d ∧ r = .dat (.bl (isSt rows.length d))
abbrev C_is_state_of (P : Program) (w : World) (K : PySem.W.Frag) (mg : Str → Option Value) (base : Heap) (C : Addr) : Prop := CE P w K mg base 3 "is_state_of" s_is_state_of p_is_state_of (R_is_state_of C)
theorem g_is_state_of (M : Mod K mg) (MC : Mac K mg C) (c1 : C_is_count P w K mg base) : C_is_state_of P w K mg base C := by
  refine calP (k := 2) M.is_state_of sc_is_state_of 0 (fun ds r h => ?_) fun ds r h f cdv A outer s H hr => ?_
  · obtain ⟨wd, o, rows, d, rfl, _⟩ := h
    rfl
  · obtain ⟨wd, o, rows, d, rfl, hz, hd, rfl⟩ := h
    obtain ⟨g, gd, hF, hm, hb⟩ := MC.len
    cases h1 : isCnt d with
    | false =>
      have e : isSt rows.length d = false := by
        cases d with
        | int i =>
          simp [isCnt] at h1
          simp [isSt]
          omega
        | _ => rfl
      rw [e]
      exact runs_ret (de_andF (by rw [← h1]; exact de_cP c1 hr (da_cons (de_var 1 rfl) da_nil) ⟨d, rfl, hd, rfl⟩ (.dat _))) .dat
    | true =>
      obtain ⟨i, rfl⟩ : ∃ i, d = .int i := by cases d <;> first | exact ⟨_, rfl⟩ | cases h1
      have e : isSt rows.length (.int i) = decide (i < (rows.length : Int)) := by
        simp [isCnt] at h1
        simp [isSt, h1]
      rw [e]
      exact runs_ret (de_andT (by rw [← h1]; exact de_cP c1 hr (da_cons (de_var 1 rfl) da_nil) ⟨_, rfl, hd, rfl⟩ (.dat _))
        (de_one (de_ltI (de_var 1 rfl) (de_lenC (de_var 0 rfl) hm.at_ hm.fn (g_Clen M MC hF) hb (hr.mono (by decide)) ⟨wd, o, rows, rfl, rfl⟩ (by omega) M.blt.len)))) .dat
def R_is_lot (C : Addr) (ds : List D) (r : Res) : Prop := ∃ (wd o : Nat) (rows : List Row) (v : D), ds = [macD C wd o rows, v] ∧ rows.length ≤ 16 ∧ okV v ∧ r = .dat (.bl (isLot rows.length v))
abbrev C_is_lot (P : Program) (w : World) (K : PySem.W.Frag) (mg : Str → Option Value) (base : Heap) (C : Addr) : Prop := CE P w K mg base 4 "is_lot" s_is_lot p_is_lot (R_is_lot C)
theorem asc_tail {ds : List D} (h : ds ≠ []) : ds.length = ds.tail.length + 1 := by
  cases ds with
  | nil => exact absurd rfl h
  | cons d ds => rfl
theorem g_is_lot (M : Mod K mg) (MC : Mac K mg C) (c0 : C_is_list P w K mg base) (c1 : C_is_state_of P w K mg base C) : C_is_lot P w K mg base C := by
  refine calP (k := 3) M.is_lot sc_is_lot 0 (fun ds r h => ?_) fun ds r h f cdv A outer s H hr => ?_
  · obtain ⟨wd, o, rows, d, rfl, _⟩ := h
    rfl
  · obtain ⟨wd, o, rows, v, rfl, hz, hv, rfl⟩ := h
    by_cases hsq : ∃ ds, sqOf v ds
    · obtain ⟨ds, hs⟩ := hsq
      obtain ⟨hl, hok⟩ := hv.mem ds hs
      have e0 : isLot rows.length v = (!ds.isEmpty && ds.all (isSt rows.length) && ascD ds) := by rcases hs with rfl | rfl <;> rfl
      have hlen : LenU [] (.dat v) ds.length := by
        rcases hs with rfl | rfl
        · exact .lst (.dat _)
        · exact .tup _
      rw [e0]
      have d0 : isSq v = true := sq_isSq hs
      by_cases hne : ds = []
      · subst hne
        exact Ex.runs (ex_ifT (DW.dt (dw_orF (dt_notF (dt_val (de_to (de_cP c0 hr (da_cons (de_var 1 rfl) da_nil) ⟨v, rfl, hv.ok, rfl⟩ (.dat _)) (by rw [d0])))) (dw_orT (dt_to (dt_eqI (de_len M.blt.len (de_var 1 rfl) hlen) de_int) (by simp))))) (ex_ret de_bl .dat))
      · have hemp : ds.isEmpty = false := by simp [hne]
        have hcomp := fun (p p2 : Pos) => hl
        cases hall : ds.all (isSt rows.length) with
        | false =>
          rw [Bool.and_false, Bool.false_and]
          refine Ex.runs (ex_ifT (DW.dt (dw_orF (dt_notF (dt_val (de_to (de_cP c0 hr (da_cons (de_var 1 rfl) da_nil) ⟨v, rfl, hv.ok, rfl⟩ (.dat _)) (by rw [d0])))) (dw_orF (dt_to (dt_eqI (de_len M.blt.len (de_var 1 rfl) hlen) de_int) (by simp [hne])) (dw_or1 (dt_notT (dt_val (de_to (de_allLc [("state", 4)] (T := .one 4) (isSt rows.length) rfl M.blt.all sc_is_lot.nd (di_sq (de_var 1 rfl) hs) (blkOk_by (N := n_is_lot) (sc := defScope s_is_lot) (by decide +kernel)) rfl (fun _ _ _ _ _ => pg_name sc_is_lot.nd rfl (.inl rfl)) (fun d hd => ?_) (by omega)) (by rw [hall])))))))) (ex_ret de_bl .dat))
          exact ⟨_, _, rfl, fun _ _ _ _ _ => de_cP c1 hr (da_cons (de_var 0 rfl) (da_cons (de_var 4 rfl) da_nil)) ⟨wd, o, rows, d, rfl, hz, hok d hd, rfl⟩ (.dat _), rfl⟩
        | true =>
          rw [hemp, Bool.not_false, Bool.true_and, Bool.true_and]
          refine Ex.runs (ex_ifN (DW.dt (dw_orF (dt_notF (dt_val (de_to (de_cP c0 hr (da_cons (de_var 1 rfl) da_nil) ⟨v, rfl, hv.ok, rfl⟩ (.dat _)) (by rw [d0])))) (dw_orF (dt_to (dt_eqI (de_len M.blt.len (de_var 1 rfl) hlen) de_int) (by simp [hne])) (dw_or1 (dt_notF (dt_val (de_to (de_allLc [("state", 4)] (T := .one 4) (isSt rows.length) rfl M.blt.all sc_is_lot.nd (di_sq (de_var 1 rfl) hs) (blkOk_by (N := n_is_lot) (sc := defScope s_is_lot) (by decide +kernel)) rfl (fun _ _ _ _ _ => pg_name sc_is_lot.nd rfl (.inl rfl)) (fun d hd => ?_) (by omega)) (by rw [hall])))))))) ?_)
          · exact ⟨_, _, rfl, fun _ _ _ _ _ => de_cP c1 hr (da_cons (de_var 0 rfl) (da_cons (de_var 4 rfl) da_nil)) ⟨wd, o, rows, d, rfl, hz, hok d hd, rfl⟩ (.dat _), rfl⟩
          have two : ∀ d ∈ zipD ds ds.tail, ∃ a b, d = .tup [.int a, .int b] := fun d hd => by
            obtain ⟨x, y, hx, hy, rfl⟩ := zipD_mem hd
            obtain ⟨a, rfl, _⟩ := isSt_int (List.all_eq_true.mp hall x hx)
            obtain ⟨b, rfl, _⟩ := isSt_int (List.all_eq_true.mp hall y (List.mem_of_mem_tail hy))
            exact ⟨a, b, rfl⟩
          have tl : ds.tail.length ≤ 1000 := by rw [List.length_tail]; omega
          rcases hs with rfl | rfl
          · refine ex_ret (de_allLc [("one", 2), ("other", 3)] (T := .tup [2, 3]) lessD rfl M.blt.all sc_is_lot.nd (di_lst (de_listZip rfl M.blt.list M.blt.zip (de_var 1 rfl) (by rw [← cut1 ds]; exact de_slL (de_var 1 rfl) (do_some de_int) do_none (.dat _) (.dl _)) (.lst (.dat _) (.dat _)) (asc_tail hne) tl)) (blkOk_by (N := n_is_lot) (sc := defScope s_is_lot) (by decide +kernel)) rfl (fun _ _ _ _ _ => tg_two rfl sc_is_lot.nd) (fun d hd => ?_) (by have := zipD_len (ds := ds) (es := ds.tail); omega)) .dat
            obtain ⟨a, b, rfl⟩ := two d hd
            exact ⟨_, _, rfl, fun _ _ _ _ _ => de_ltI (de_var 2 rfl) (de_var 3 rfl), rfl⟩
          · refine ex_ret (de_allLc [("one", 2), ("other", 3)] (T := .tup [2, 3]) lessD rfl M.blt.all sc_is_lot.nd (di_lst (de_listZip rfl M.blt.list M.blt.zip (de_var 1 rfl) (by rw [← cut1 ds]; exact de_slT (de_var 1 rfl) (do_some de_int) do_none) (.tup _ _) (asc_tail hne) tl)) (blkOk_by (N := n_is_lot) (sc := defScope s_is_lot) (by decide +kernel)) rfl (fun _ _ _ _ _ => tg_two rfl sc_is_lot.nd) (fun d hd => ?_) (by have := zipD_len (ds := ds) (es := ds.tail); omega)) .dat
            obtain ⟨a, b, rfl⟩ := two d hd
            exact ⟨_, _, rfl, fun _ _ _ _ _ => de_ltI (de_var 2 rfl) (de_var 3 rfl), rfl⟩
    · have d0 : isSq v = false := by
        cases v with
        | lst ds => exact absurd ⟨ds, .inl rfl⟩ hsq
        | tup ds => exact absurd ⟨ds, .inr rfl⟩ hsq
        | rol ds => exact absurd rfl (hv.nr ds)
        | _ => rfl
      have e0 : isLot rows.length v = false := by
        cases v with
        | lst ds => exact absurd ⟨ds, .inl rfl⟩ hsq
        | tup ds => exact absurd ⟨ds, .inr rfl⟩ hsq
        | _ => rfl
      rw [e0]
      exact Ex.runs (ex_ifT (DW.dt (dw_orT (dt_notT (dt_val (de_to (de_cP c0 hr (da_cons (de_var 1 rfl) da_nil) ⟨v, rfl, hv.ok, rfl⟩ (.dat _)) (by rw [d0])))))) (ex_ret de_bl .dat))
end K82
namespace K82
open PySem PySem.Spec PyProof.Rows L2 DL
variable {P : Program} {w : World} {K : PySem.W.Frag} {mg : Str → Option Value} {base : Heap} {C : Addr}
/-! ### what a machine does -/
def cell (rows : List Row) (s j : Nat) : Nat × List Int := (rows.getD s []).getD j (0, [])
def go (wd : Nat) (rows : List Row) (s : Int) (l : List Int) : Int := ((cell rows s.toNat ((allL wd).idxOf l)).1 : Nat)
theorem letters_nodup : ∀ wd : Nat, wd ≤ 4 → (allL wd).Nodup := by decide +kernel
theorem cell_ok {wd o : Nat} {rows : List Row} (h : RowsOk wd o rows) {s j : Nat} (hs : s < rows.length) (hj : j < (allL wd).length) : (cell rows s j).1 < rows.length := by
  unfold cell
  rw [getD_lt hs]
  have hr := h.row _ (List.getElem_mem hs)
  rw [getD_lt (by rw [hr.len]; exact hj)]
  exact (hr.goal _ (List.getElem_mem _)).1
theorem go_ok {wd o : Nat} {rows : List Row} (h : RowsOk wd o rows) {s : Int} {l : List Int} (h0 : 0 ≤ s) (hs : s < rows.length) (hl : l ∈ allL wd) : 0 ≤ go wd rows s l ∧ go wd rows s l < rows.length := by
  have := cell_ok h (s := s.toNat) (j := (allL wd).idxOf l) (by omega) (List.idxOf_lt_length_iff.mpr hl)
  unfold go
  omega
def colD (rows : List Row) (j : Nat) : D := .lst (rows.map fun r => goalD (r.getD j (0, [])))
def mvFrom (rows : List Row) : Nat → List (List Int) → Ps
  | _, [] => []
  | k, l :: ls => (l, colD rows k) :: mvFrom rows (k + 1) ls
abbrev mvP (wd : Nat) (rows : List Row) : Ps := mvFrom rows 0 (allL wd)
abbrev mvD (wd : Nat) (rows : List Row) : D := .lkd (kOf (mvP wd rows)) (vOf (mvP wd rows))
theorem mv_keys (rows : List Row) : ∀ (ls : List (List Int)) (k : Nat), (mvFrom rows k ls).map (·.1) = ls
  | [], _ => rfl
  | l :: ls, k => by rw [mvFrom, List.map_cons, mv_keys]
theorem mv_zip (rows : List Row) : ∀ (ls : List (List Int)) (k : Nat), mvFrom rows k ls = (ls.zipIdx k).map fun p => (p.1, colD rows p.2)
  | [], _ => rfl
  | l :: ls, k => by rw [mvFrom, List.zipIdx_cons, List.map_cons, mv_zip rows ls (k + 1)]
theorem mv_val (rows : List Row) {l : List Int} : ∀ (ls : List (List Int)) (k : Nat), l ∈ ls → val (mvFrom rows k ls) l = some (colD rows (k + ls.idxOf l))
  | [], _, h => by cases h
  | x :: ls, k, h => by
    rw [mvFrom, val_cons, List.idxOf_cons]
    by_cases e : x = l
    · simp [e]
    · have h2 : l ∈ ls := by
        cases h with
        | head => exact absurd rfl e
        | tail _ h => exact h
      have e2 : (x == l) = false := by simpa using e
      simp only [e, if_false, e2, cond_false]
      rw [mv_val rows ls (k + 1) h2]
      congr 2
      omega
theorem col_at {rows : List Row} {j : Nat} {s : Int} (h0 : 0 ≤ s) (hs : s < rows.length) : atI (rows.map fun r => goalD (r.getD j (0, []))) s = some (goalD (cell rows s.toNat j)) := by
  have h : s.toNat < rows.length := by omega
  refine atI_nn h0 ?_
  rw [List.getElem?_map, List.getElem?_eq_getElem h, cell, getD_lt h]
  rfl
/-- moves[letter][state][0] -/
theorem de_move {X : Cx} {a b c : Expr} {S : DSt} {p1 p2 p3 p4 : Pos} {k : Nat} {wd : Nat} {rows : List Row} {l : List Int} {s : Int} (hu : X.A.units + 1 < cLine) (ha : DE X a S (.dat (mvD wd rows)) S) (hb : DE X b S (.dat (tI l)) S) (hc : DE X c S (.dat (.int s)) S)
    (hl : l ∈ allL wd) (h0 : 0 ≤ s) (hs : s < rows.length) (nb : NoSl b := by exact fun _ _ => rfl) (nc : PlainIx c := by exact fun _ _ => rfl) : DE X (.Subscript (.Subscript (.Subscript a b p1) c p2) (.Constant (.int 0) k p3) p4) S (.dat (.int (go wd rows s l))) S := by
  have e := mv_val rows (allL wd) 0 hl
  rw [Nat.zero_add] at e
  exact de_ixT (de_ixL (de_dget hu ha hb (.lkd _) e nb) hc (.dat _) (col_at h0 hs) nc) de_int rfl
/-! ### want_lot, want_word_of, want_few_states -/
def R_want_few_states (C : Addr) (ds : List D) (r : Res) : Prop := ∃ (wd o : Nat) (rows : List Row), ds = [macD C wd o rows] ∧ rows.length ≤ 16 ∧ r = .dat .non
abbrev C_want_few_states (P : Program) (w : World) (K : PySem.W.Frag) (mg : Str → Option Value) (base : Heap) (C : Addr) : Prop := CE P w K mg base 3 "want_few_states" s_want_few_states p_want_few_states (R_want_few_states C)
theorem g_want_few_states (M : Mod K mg) (MC : Mac K mg C) (hM : ∃ t, mg "MOST_STATES" = some (.int 16 t)) : C_want_few_states P w K mg base C := by
  refine calP (k := 2) M.want_few_states sc_want_few_states 0 (fun ds r h => ?_) fun ds r h f cdv A outer s H hr => ?_
  · obtain ⟨wd, o, rows, rfl, _⟩ := h
    rfl
  · obtain ⟨wd, o, rows, rfl, hz, rfl⟩ := h
    obtain ⟨t, hM⟩ := hM
    obtain ⟨g, gd, hF, hm, hb⟩ := MC.len
    exact Ex.runs (ex_ifN (dt_to (dt_gtI (de_lenC (de_var 0 rfl) hm.at_ hm.fn (g_Clen M MC hF) hb (hr.mono (by decide)) ⟨wd, o, rows, rfl, rfl⟩ (by omega) M.blt.len) (de_globI rfl hM)) (by simp; omega)) (ex_nil .nx))
/-! ### moves_of -/
def R_moves_of (C : Addr) (ds : List D) (r : Res) : Prop := ∃ (wd o : Nat) (rows : List Row), ds = [macD C wd o rows] ∧ RowsOk wd o rows ∧ r = .dat (mvD wd rows)
abbrev C_moves_of (P : Program) (w : World) (K : PySem.W.Frag) (mg : Str → Option Value) (base : Heap) (C : Addr) : Prop := CE P w K mg base 3 "moves_of" s_moves_of p_moves_of (R_moves_of C)
theorem g_moves_of (M : Mod K mg) (MC : Mac K mg C) (c1 : C_all_letters P w K mg base) : C_moves_of P w K mg base C := by
  refine calP (k := 2) M.moves_of sc_moves_of 0 (fun ds r h => ?_) fun ds r h f cdv A outer s H hr => ?_
  · obtain ⟨wd, o, rows, rfl, _⟩ := h
    rfl
  · obtain ⟨wd, o, rows, rfl, hR, rfl⟩ := h
    obtain ⟨g, gd, hF, hm, hb⟩ := MC.rows
    obtain ⟨g2, gd2, hF2, hm2, hb2⟩ := MC.letters
    have hmost := hR.most
    refine Ex.runs (ex_cons (ds_set (i := 1) (de_meth0 (de_var 0 rfl) MC.isc.cl hm ((g_Crows M MC hF).mono (by decide)) hb hr ⟨wd, o, rows, rfl, hR.most, rfl⟩ (.dat _)) sc_moves_of.nd) (ex_ret (de_dcL (own := [("place", 2), ("letter", 3)]) (T := .tup [2, 3]) (ps := mvP wd rows) rfl hr.u1 sc_moves_of.nd
      (di_enum M.blt.enumerate (de_meth0 (de_var 0 rfl) MC.isc.cl hm2 (g_Cletters MC c1 hF2) hb2 hr ⟨wd, o, rows, rfl, hR.w4, rfl⟩ (.dat _))) (blkOk_by (N := n_moves_of) (sc := defScope s_moves_of) (by decide +kernel)) rfl (fun _ _ _ _ _ => tg_two rfl sc_moves_of.nd) (m' := []) ?_ ?_) .dat))
    · have dom : ∀ r ∈ rows, r.length = (allL wd).length := fun r h => (hR.row r h).len
      have e : mvP wd rows = [] ++ (allL wd).zipIdx.map fun p => (p.1, colD rows p.2) := by rw [List.nil_append]; exact mv_zip rows _ 0
      rw [DL.enum_zip, e]
      refine dc_map (ι := List Int × Nat) (fun p => .tup [.int (p.2 : Nat), tI p.1]) (fun p => p.1) (fun p => colD rows p.2) _ [] ?_ fun p hp => ?_
      · have q := mv_keys rows (allL wd) 0
        rw [mv_zip, List.map_map] at q
        rw [List.map_nil, List.nil_append]
        have q2 : ((allL wd).zipIdx.map fun p => p.1) = allL wd := q
        rw [q2]
        exact letters_nodup wd hR.w4
      · have hk : p.2 < (allL wd).length := by
          have := List.snd_lt_of_mem_zipIdx hp
          omega
        refine ⟨_, _, _, rfl, fun _ _ _ _ _ => de_var 3 rfl, fun _ _ _ _ _ => de_lcD (es := rows.map fun r => goalD (r.getD p.2 (0, []))) [("row", 4)] (fun d => match d with
            | .lst xs => xs.getD p.2 .non
            | d => d) (T := .one 4) rfl sc_moves_of.nd (di_lst (de_var 1 rfl)) (blkOk_in (N := n_moves_of) (inS (defScope s_moves_of) (cScope (exOf (defBody s_moves_of) 1))) (by decide +kernel)) rfl (fun _ _ _ _ _ => pg_name sc_moves_of.nd rfl (.inl rfl)) (fun d hd => ?_) ?_ (by rw [List.length_map]; omega), rfl⟩
        · obtain ⟨r, hr2, rfl⟩ := List.mem_map.mp hd
          have hlt : p.2 < (r.map goalD).length := by rw [List.length_map, dom r hr2]; omega
          refine ⟨_, _, rfl, fun _ _ _ _ _ => de_ixL (de_var 4 rfl) (de_var 2 rfl) (.dat _) ?_, rfl⟩
          refine atI_nn (by omega) ?_
          rw [Int.toNat_natCast, List.getElem?_eq_getElem hlt]
          show _ = some (List.getD (r.map goalD) p.2 .non)
          rw [getD_lt hlt]
        · rw [List.map_map]
          refine List.map_congr_left fun r hr2 => ?_
          have hlt : p.2 < (r.map goalD).length := by rw [List.length_map, dom r hr2]; omega
          show List.getD (r.map goalD) p.2 .non = _
          rw [getD_lt hlt, getD_lt (by rw [dom r hr2]; omega), List.getElem_map]
    · have := allL_16 hR.w4
      rw [enumFrom_len, List.length_map]
      omega
end K82
namespace K82
open PySem PySem.Spec PyProof.Rows L2 DL
variable {P : Program} {w : World} {K : PySem.W.Frag} {mg : Str → Option Value} {base : Heap} {C : Addr}
/-! ### lots that are led -/
def inM (n : Nat) (lot : List Int) : Prop := ∀ s ∈ lot, 0 ≤ s ∧ s < n
def nextL (wd : Nat) (rows : List Row) (lot : List Int) (l : List Int) : List Int := sset (lot.map fun s => go wd rows s l)
theorem sorted_len : ∀ (n : Nat) (xs : List Int), xs.Pairwise (· < ·) → (∀ x ∈ xs, 0 ≤ x ∧ x < n) → xs.length ≤ n := by
  intro n xs h1 h2
  have h3 : (xs.map Int.toNat).Nodup := by
    refine List.pairwise_map.mpr (h1.imp_of_mem ?_)
    intro a b ha hb hab
    have := h2 a ha
    have := h2 b hb
    omega
  have := nodup_len h3 (b := List.range n) fun k hk => by
    obtain ⟨x, hx, rfl⟩ := List.mem_map.mp hk
    have := h2 x hx
    exact List.mem_range.mpr (by omega)
  rw [List.length_map, List.length_range] at this
  exact this
theorem nextL_ok {wd o : Nat} {rows : List Row} (h : RowsOk wd o rows) {lot : List Int} {l : List Int} (hl : l ∈ allL wd) (hm : inM rows.length lot) : inM rows.length (nextL wd rows lot l) := fun s hs => by
  obtain ⟨x, hx, rfl⟩ := List.mem_map.mp (mem_sset.mp hs)
  exact go_ok h (hm x hx).1 (hm x hx).2 hl
theorem nextL_len {wd o : Nat} {rows : List Row} (h : RowsOk wd o rows) {lot : List Int} {l : List Int} (hl : l ∈ allL wd) (hm : inM rows.length lot) : (nextL wd rows lot l).length ≤ 16 :=
  Nat.le_trans (sorted_len rows.length _ (sset_sorted _) (nextL_ok h hl hm)) h.most
def R_next_lot (ds : List D) (r : Res) : Prop := ∃ (wd o : Nat) (rows : List Row) (v : D) (lot l : List Int), ds = [mvD wd rows, v, tI l] ∧ RowsOk wd o rows ∧ sqOf v (lot.map .int) ∧ l ∈ allL wd ∧ inM rows.length lot ∧ lot.length ≤ 16 ∧ r = .new ((nextL wd rows lot l).map .int)
abbrev C_next_lot (P : Program) (w : World) (K : PySem.W.Frag) (mg : Str → Option Value) (base : Heap) : Prop := CE P w K mg base 1 "next_lot" s_next_lot p_next_lot R_next_lot
theorem g_next_lot (M : Mod K mg) : C_next_lot P w K mg base := by
  refine calP (k := 0) M.next_lot sc_next_lot 2 (fun ds r h => ?_) fun ds r h f cdv A outer s H hr => ?_
  · obtain ⟨wd, o, rows, v, lot, l, rfl, _⟩ := h
    rfl
  · obtain ⟨wd, o, rows, v, lot, l, rfl, hR, hv, hl, hm, hz, rfl⟩ := h
    refine runs_ret (de_sset (ns := lot.map fun s => go wd rows s l) rfl M.blt.sorted M.blt.set (de_lcD (es := (lot.map fun s => go wd rows s l).map .int) [("state", 3)] (fun d => match d with
      | .int s => .int (go wd rows s l)
      | d => d) (T := .one 3) rfl sc_next_lot.nd (di_sq (de_var 1 rfl) hv) (blkOk_by (N := n_next_lot) (sc := defScope s_next_lot) (by decide +kernel)) rfl (fun _ _ _ _ _ => pg_name sc_next_lot.nd rfl (.inl rfl)) (fun d hd => ?_) (by rw [List.map_map, List.map_map]; rfl) (by rw [List.length_map]; omega)) (.dat _) (by rw [List.length_map]; omega) (.ow 1 _ (by decide) rfl)) (.new (by decide) rfl)
    obtain ⟨s, hs, rfl⟩ := List.mem_map.mp hd
    exact ⟨_, _, rfl, fun _ _ _ _ _ => de_move hr.u1 (de_var 0 rfl) (de_var 2 rfl) (de_var 3 rfl) hl (hm s hs).1 (hm s hs).2, rfl⟩
/-! ### led_by -/
def ledL (wd : Nat) (rows : List Row) : List Int → List (List Int) → List Int
  | lot, [] => lot
  | lot, l :: ls => ledL wd rows (nextL wd rows lot l) ls
def R_led_by (ds : List D) (r : Res) : Prop := ∃ (wd o : Nat) (rows : List Row) (v u : D) (lot : List Int) (ls : List (List Int)), ds = [mvD wd rows, v, u] ∧ RowsOk wd o rows ∧ sqOf v (lot.map .int) ∧ sqOf u (ls.map tI) ∧ (∀ l ∈ ls, l ∈ allL wd) ∧ inM rows.length lot ∧ lot.length ≤ 16 ∧ r = .new ((ledL wd rows lot ls).map .int)
abbrev C_led_by (P : Program) (w : World) (K : PySem.W.Frag) (mg : Str → Option Value) (base : Heap) : Prop := CE P w K mg base 2 "led_by" s_led_by p_led_by R_led_by
theorem de_listS {X : Cx} {a : Expr} {S S1 S2 : DSt} {v : D} {ds : List D} {z : U} {p pos : Pos} (hm : X.mg "list" = none) (ha : DE X a S (.dat v) S1) (q : sqOf v ds) (hz : DL.Made S1 (.lst ds) z S2) (hg : Gl X "list" := by rfl) (he : starEach [a] X.env = (false, eval a X.env) :: starEach [] X.env := by rfl) : DE X (.Call (.Name "list" p) [a] [] pos) S z S2 := by
  rcases q with rfl | rfl
  · exact de_listL hm ha (.dat _) hz hg he
  · exact de_listT hm ha hz hg he
theorem g_led_by (M : Mod K mg) (c1 : C_next_lot P w K mg base) : C_led_by P w K mg base := by
  refine calP (k := 1) M.led_by sc_led_by 2 (fun ds r h => ?_) fun ds r h f cdv A outer s H hr => ?_
  · obtain ⟨wd, o, rows, v, u, lot, ls, rfl, _⟩ := h
    rfl
  · obtain ⟨wd, o, rows, v, u, lot, ls, rfl, hR, hv, hu, hls, hm, hz, rfl⟩ := h
    -- found is data as long as letters are left, and the def's own list behind the last
    let T0 : List (Option U) := [some (.dat (mvD wd rows)), some (.dat v), some (.dat u)]
    let St : List Int → List (List Int) → Option U → DSt := fun L ls t => match ls with
      | [] => ⟨T0 ++ [some (.own 1), t], [none, some (.lst (L.map .int))]⟩
      | _ :: _ => ⟨T0 ++ [some (.dat (.lst (L.map .int))), t], [none, none]⟩
    have h0 : DS (BodyX P w K mg base n_led_by "led_by" s_led_by f cdv A outer s H) ((defBody s_led_by).getD 0 (.Pass ⟨0, 0, 0, 0⟩)) (st0 n_led_by [mvD wd rows, v, u] 2) (.nx (St lot ls none)) := by
      cases ls with
      | nil => exact ds_set (i := 3) (de_listS M.blt.list (de_var 1 rfl) hv (.ow 1 _ (by decide) rfl)) sc_led_by.nd
      | cons l ls => exact ds_set (i := 3) (de_listS M.blt.list (de_var 1 rfl) hv (.dl _)) sc_led_by.nd
    refine Ex.runs (ex_cons h0 (ex_for (T := .one 4) (fun ds S => ∃ L t ks, ds = ks.map tI ∧ S = St L ks t ∧ (∀ l ∈ ks, l ∈ allL wd) ∧ inM rows.length L ∧ L.length ≤ 16 ∧ ledL wd rows L ks = ledL wd rows lot ls) (ds := ls.map tI) (S1 := St lot ls none) rfl ?_ (pg_name sc_led_by.nd rfl (.inl rfl)) ⟨lot, none, ls, rfl, rfl, hls, hm, hz, rfl⟩ ?_ ?_))
    · cases ls with
      | nil => exact di_sq (de_var 2 rfl) hu
      | cons l ls => exact di_sq (de_var 2 rfl) hu
    · rintro d rest S ⟨L, t, ks, e, rfl, hk, hmL, hzL, hled⟩
      cases ks with
      | nil => cases e
      | cons l ks =>
        rw [List.map_cons] at e
        cases e
        have hl := hk l List.mem_cons_self
        have hk' := fun x hx => hk x (List.mem_cons_of_mem _ hx)
        cases ks with
        | nil =>
          exact ⟨_, rfl, ex_cons (ds_set (i := 3) (de_cP c1 hr (da_cons (de_var 0 rfl) (da_cons (de_var 3 rfl) (da_cons (de_var 4 rfl) da_nil))) ⟨wd, o, rows, _, L, l, rfl, hR, .inl rfl, hl, hmL, hzL, rfl⟩ (.new (.ow 1 _ (by decide) rfl))) sc_led_by.nd)
            (ex_nil ⟨nextL wd rows L l, some (.dat (tI l)), [], rfl, rfl, hk', nextL_ok hR hl hmL, nextL_len hR hl hmL, hled⟩)⟩
        | cons l2 ks =>
          exact ⟨_, rfl, ex_cons (ds_set (i := 3) (de_cP c1 hr (da_cons (de_var 0 rfl) (da_cons (de_var 3 rfl) (da_cons (de_var 4 rfl) da_nil))) ⟨wd, o, rows, _, L, l, rfl, hR, .inl rfl, hl, hmL, hzL, rfl⟩ (.new (.dl _))) sc_led_by.nd)
            (ex_nil ⟨nextL wd rows L l, some (.dat (tI l)), l2 :: ks, rfl, rfl, hk', nextL_ok hR hl hmL, nextL_len hR hl hmL, hled⟩)⟩
    · rintro S ⟨L, t, ks, e, rfl, hk, hmL, hzL, hled⟩
      cases ks with
      | nil =>
        have e2 : L = ledL wd rows lot ls := hled
        rw [← e2]
        exact ex_ret (de_var 3 rfl) (.new (by decide) rfl)
      | cons l ks => cases e
/-! ### led -/
theorem asc_ints : ∀ {lot : List Int}, lot.Pairwise (· < ·) → ascD (lot.map .int) = true
  | [], _ => rfl
  | [x], _ => rfl
  | x :: y :: l, h => by
    obtain ⟨h1, h2⟩ := List.pairwise_cons.mp h
    have t := asc_ints h2
    unfold ascD at t ⊢
    simp only [List.map_cons, List.tail_cons, zipD, List.all_cons, lessD] at t ⊢
    rw [t, decide_eq_true (h1 y List.mem_cons_self)]
    rfl
theorem st_ints {n : Nat} {lot : List Int} (h : inM n lot) : (lot.map D.int).all (isSt n) = true := by
  refine List.all_eq_true.mpr fun d hd => ?_
  obtain ⟨s, hs, rfl⟩ := List.mem_map.mp hd
  simp [isSt, h s hs]
theorem lot_ok {n : Nat} {v : D} {lot : List Int} (hv : sqOf v (lot.map .int)) (h1 : lot ≠ []) (h2 : lot.Pairwise (· < ·)) (h3 : inM n lot) : isLot n v = true := by
  have e : isLot n v = (!(lot.map D.int).isEmpty && (lot.map D.int).all (isSt n) && ascD (lot.map .int)) := by rcases hv with rfl | rfl <;> rfl
  rw [e, st_ints h3, asc_ints h2]
  cases lot with
  | nil => exact absurd rfl h1
  | cons x l => rfl
theorem okV_of {v : D} {ds : List D} (h : sqOf v ds) (hz : ds.length ≤ 1000) (hd : ∀ d ∈ ds, okD d) : okV v := by
  refine ⟨sq_ok h, fun es e => ?_, fun es e => ?_⟩
  · subst e
    rcases h with h | h <;> cases h
  · have : es = ds := by rcases h with rfl | rfl <;> rcases e with e | e <;> cases e <;> rfl
    rw [this]
    exact ⟨hz, hd⟩
theorem letters_lets {wd : Nat} : ∀ l ∈ allL wd, bits l ∧ l.length = wd := by
  have key : ∀ (k : Nat) (L : List (List Int)) (j : Nat), (∀ l ∈ L, bits l ∧ l.length = j) → ∀ l ∈ iterL k L, bits l ∧ l.length = j + k := by
    intro k
    induction k with
    | zero => exact fun L j h => h
    | succ k ih =>
      intro L j h l hl
      have := ih (stepL L) (j + 1) (fun x hx => by
        obtain ⟨y, hy, hx⟩ := List.mem_flatMap.mp hx
        obtain ⟨b1, b2⟩ := h y hy
        simp at hx
        rcases hx with rfl | rfl
        · refine ⟨fun i hi => ?_, by simp [b2]⟩
          rcases List.mem_append.mp hi with q | q
          · exact b1 i q
          · exact .inl (by simpa using q)
        · refine ⟨fun i hi => ?_, by simp [b2]⟩
          rcases List.mem_append.mp hi with q | q
          · exact b1 i q
          · exact .inr (by simpa using q)) l hl
      exact ⟨this.1, by omega⟩
  intro l hl
  have := key wd [[]] 0 (fun x hx => by rw [List.mem_singleton.mp hx]; exact ⟨fun _ h => (nomatch h), rfl⟩) l hl
  exact ⟨this.1, by omega⟩
end K82
namespace K82
open PySem PySem.Spec PyProof.Rows L2 DL
variable {P : Program} {w : World} {K : PySem.W.Frag} {mg : Str → Option Value} {base : Heap} {C : Addr}
/-! ### words_to_lots -/
abbrev ltr (wd j : Nat) : List Int := (allL wd).getD j []
abbrev lstep (wd : Nat) (rows : List Row) (lot : List Int) (j : Nat) : List Int := nextL wd rows lot (ltr wd j)
abbrev lrun (wd : Nat) (rows : List Row) (s0 : List Int) (u : List Nat) : List Int := BF.run (lstep wd rows) s0 u
def lw (wd : Nat) (u : List Nat) : List (List Int) := u.map (ltr wd)
def psF (wd : Nat) (rows : List Row) (s0 : List Int) (L : List (List Nat)) : Ps := L.map fun u => (lrun wd rows s0 u, .lst ((lw wd u).map tI))
theorem psF_keys {wd : Nat} {rows : List Row} {s0 : List Int} {L : List (List Nat)} : (psF wd rows s0 L).map (·.1) = L.map (lrun wd rows s0) := by
  unfold psF
  rw [List.map_map]
  rfl
theorem psF_val {wd : Nat} {rows : List Row} {s0 : List Int} : ∀ {L : List (List Nat)} {u : List Nat}, (L.map (lrun wd rows s0)).Nodup → u ∈ L → val (psF wd rows s0 L) (lrun wd rows s0 u) = some (.lst ((lw wd u).map tI))
  | [], _, _, h => by cases h
  | x :: L, u, hn, h => by
    have e : psF wd rows s0 (x :: L) = (lrun wd rows s0 x, .lst ((lw wd x).map tI)) :: psF wd rows s0 L := rfl
    rw [e, val_cons]
    rw [List.map_cons] at hn
    obtain ⟨h1, h2⟩ := List.nodup_cons.mp hn
    cases h with
    | head => simp
    | tail _ h =>
      rw [if_neg, psF_val h2 h]
      intro e
      have e2 : lrun wd rows s0 x = lrun wd rows s0 u := e
      rw [e2] at h1
      exact h1 (List.mem_map.mpr ⟨u, h, rfl⟩)
/-- lots that the search goes over -/
structure okLot (n : Nat) (lot : List Int) : Prop where
  ne : lot ≠ []
  two : lot.length ≤ 2
  srt : lot.Pairwise (· < ·)
  inm : inM n lot
theorem okLot_next {wd o : Nat} {rows : List Row} (h : RowsOk wd o rows) {lot : List Int} {l : List Int} (hl : l ∈ allL wd) (k : okLot rows.length lot) : okLot rows.length (nextL wd rows lot l) := by
  refine ⟨fun e => ?_, ?_, sset_sorted _, nextL_ok h hl k.inm⟩
  · obtain ⟨x, hx⟩ := List.exists_mem_of_ne_nil lot k.ne
    have : go wd rows x l ∈ nextL wd rows lot l := mem_sset.mpr (List.mem_map.mpr ⟨x, hx, rfl⟩)
    rw [e] at this
    cases this
  · have h1 : (nextL wd rows lot l).Nodup := (sset_sorted _).imp fun {a b} hab => by omega
    have := nodup_len h1 (b := lot.map fun s => go wd rows s l) fun x hx => mem_sset.mp hx
    rw [List.length_map] at this
    exact Nat.le_trans this k.two
theorem ltr_mem {wd j : Nat} (h : j < (allL wd).length) : ltr wd j ∈ allL wd := by
  unfold ltr
  rw [getD_lt h]
  exact List.getElem_mem h
theorem okLot_run {wd o : Nat} {rows : List Row} (h : RowsOk wd o rows) : ∀ (u : List Nat) {s0 : List Int}, okLot rows.length s0 → (∀ x ∈ u, x < (allL wd).length) → okLot rows.length (lrun wd rows s0 u)
  | [], _, k, _ => k
  | l :: u, s0, k, hu => by
    have e : lrun wd rows s0 (l :: u) = lrun wd rows (lstep wd rows s0 l) u := rfl
    rw [e]
    exact okLot_run h u (okLot_next h (ltr_mem (hu l List.mem_cons_self)) k) fun x hx => hu x (List.mem_cons_of_mem _ hx)
def codeL (n : Nat) (lot : List Int) : Nat := (lot.getD 0 0).toNat * n + (lot.getD (lot.length - 1) 0).toNat
theorem okLot_code {n : Nat} {a b : List Int} (ha : okLot n a) (hb : okLot n b) (h : codeL n a = codeL n b) : a = b := by
  obtain ⟨a1, a2, a3, a4⟩ := ha
  obtain ⟨b1, b2, b3, b4⟩ := hb
  have fin : ∀ (x y z t : Int), 0 ≤ x ∧ x < n → 0 ≤ y ∧ y < n → 0 ≤ z ∧ z < n → 0 ≤ t ∧ t < n → x.toNat * n + y.toNat = z.toNat * n + t.toNat → x = z ∧ y = t := by
    intro x y z t hx hy hz ht e
    have hy' : y.toNat < n := by omega
    have ht' : t.toNat < n := by omega
    have e1 : x.toNat = z.toNat := by
      rcases Nat.lt_trichotomy x.toNat z.toNat with q | q | q
      · have : (x.toNat + 1) * n ≤ z.toNat * n := Nat.mul_le_mul_right n q
        rw [Nat.add_mul, Nat.one_mul] at this
        omega
      · exact q
      · have : (z.toNat + 1) * n ≤ x.toNat * n := Nat.mul_le_mul_right n q
        rw [Nat.add_mul, Nat.one_mul] at this
        omega
    rw [e1] at e
    omega
  match a, b with
  | [], _ => exact absurd rfl a1
  | _, [] => exact absurd rfl b1
  | _ :: _ :: _ :: _, _ => simp at a2
  | _, _ :: _ :: _ :: _ => simp at b2
  | [x], [z] =>
    obtain ⟨h1, _⟩ := fin x x z z (a4 x (by simp)) (a4 x (by simp)) (b4 z (by simp)) (b4 z (by simp)) h
    rw [h1]
  | [x, y], [z] =>
    obtain ⟨h1, h2⟩ := fin x y z z (a4 x (by simp)) (a4 y (by simp)) (b4 z (by simp)) (b4 z (by simp)) h
    have := (List.pairwise_cons.mp a3).1 y (by simp)
    omega
  | [x], [z, t] =>
    obtain ⟨h1, h2⟩ := fin x x z t (a4 x (by simp)) (a4 x (by simp)) (b4 z (by simp)) (b4 t (by simp)) h
    have := (List.pairwise_cons.mp b3).1 t (by simp)
    omega
  | [x, y], [z, t] =>
    obtain ⟨h1, h2⟩ := fin x y z t (a4 x (by simp)) (a4 y (by simp)) (b4 z (by simp)) (b4 t (by simp)) h
    rw [h1, h2]
theorem okLot_code_lt {n : Nat} {a : List Int} (ha : okLot n a) : codeL n a < n * n := by
  obtain ⟨a1, a2, a3, a4⟩ := ha
  have key : ∀ x y : Int, 0 ≤ x ∧ x < n → 0 ≤ y ∧ y < n → x.toNat * n + y.toNat < n * n := by
    intro x y hx hy
    have : (x.toNat + 1) * n ≤ n * n := Nat.mul_le_mul_right n (by omega)
    rw [Nat.add_mul, Nat.one_mul] at this
    omega
  match a with
  | [] => exact absurd rfl a1
  | [x] => exact key x x (a4 x (by simp)) (a4 x (by simp))
  | [x, y] => exact key x y (a4 x (by simp)) (a4 y (by simp))
  | _ :: _ :: _ :: _ => simp at a2
theorem lots_card {n : Nat} {xs : List (List Int)} (hn : xs.Nodup) (h : ∀ x ∈ xs, okLot n x) : xs.length ≤ n * n := by
  have h2 : (xs.map (codeL n)).Nodup := by
    refine List.pairwise_map.mpr (hn.imp_of_mem ?_)
    intro a b ha hb hab e
    exact hab (okLot_code (h a ha) (h b hb) e)
  have := nodup_len h2 (b := List.range (n * n)) fun k hk => by
    obtain ⟨x, hx, rfl⟩ := List.mem_map.mp hk
    exact List.mem_range.mpr (okLot_code_lt (h x hx))
  rw [List.length_map, List.length_range] at this
  exact this
abbrev LInv (wd : Nat) (rows : List Row) (s0 : List Int) (L : List (List Nat)) (i l : Nat) : Prop := BF.Inv (lstep wd rows) s0 (allL wd).length L i l
theorem l_card {wd o : Nat} {rows : List Row} (h : RowsOk wd o rows) {s0 : List Int} (k : okLot rows.length s0) (L : List (List Nat)) (i l : Nat) (I : LInv wd rows s0 L i l) : L.length ≤ rows.length * rows.length := by
  have := lots_card (n := rows.length) I.dist fun x hx => by
    obtain ⟨u, hu, rfl⟩ := List.mem_map.mp hx
    exact okLot_run h u k (I.dig u hu)
  rw [List.length_map] at this
  exact this
def lotsF (wd : Nat) (rows : List Row) (s0 : List Int) : List (List Nat) := BF.bfs (lstep wd rows) s0 (allL wd).length (rows.length * rows.length + 1) [[]] 0
def R_words_to_lots (ds : List D) (r : Res) : Prop := ∃ (wd o : Nat) (rows : List Row) (v : D) (s0 : List Int), ds = [mvD wd rows, v, .int (rows.length * rows.length : Nat)] ∧ RowsOk wd o rows ∧ sqOf v (s0.map .int) ∧ okLot rows.length s0 ∧
  r = .dat (.lkd (kOf (psF wd rows s0 (lotsF wd rows s0))) (vOf (psF wd rows s0 (lotsF wd rows s0))))
abbrev C_words_to_lots (P : Program) (w : World) (K : PySem.W.Frag) (mg : Str → Option Value) (base : Heap) : Prop := CE P w K mg base 2 "words_to_lots" s_words_to_lots p_words_to_lots R_words_to_lots
theorem de_tupleS {X : Cx} {a : Expr} {S S1 : DSt} {v : D} {ds : List D} {p pos : Pos} (hm : X.mg "tuple" = none) (ha : DE X a S (.dat v) S1) (q : sqOf v ds) (hg : Gl X "tuple" := by rfl) (he : starEach [a] X.env = (false, eval a X.env) :: starEach [] X.env := by rfl) : DE X (.Call (.Name "tuple" p) [a] [] pos) S (.dat (.tup ds)) S1 := by
  rcases q with rfl | rfl
  · exact de_tupleL hm ha (.dat _) hg he
  · exact de_tupleT hm ha hg he
def wD (wd : Nat) (rows : List Row) (s0 : List Int) (L : List (List Nat)) (i : Nat) : List D := (L.drop i).map fun u => tI (lrun wd rows s0 u)
theorem good_wD {wd : Nat} {rows : List Row} {s0 : List Int} {L : List (List Nat)} {i : Nat} : good 60 (.lst (wD wd rows s0 L i)) = true := by
  refine good_lst fun d hd => ?_
  obtain ⟨u, _, rfl⟩ := List.mem_map.mp hd
  exact good_tI _ (by decide)
end K82
namespace K82
open PySem PySem.Spec PyProof.Rows L2 DL
variable {P : Program} {w : World} {K : PySem.W.Frag} {mg : Str → Option Value} {base : Heap} {C : Addr}
theorem lw_snoc (wd : Nat) (u : List Nat) (l : Nat) : lw wd (u ++ [l]) = lw wd u ++ [ltr wd l] := by
  unfold lw
  rw [List.map_append]
  rfl
theorem psF_snoc {wd : Nat} {rows : List Row} {s0 : List Int} {L : List (List Nat)} {u : List Nat} : psF wd rows s0 (L ++ [u]) = psF wd rows s0 L ++ [(lrun wd rows s0 u, .lst ((lw wd u).map tI))] := by
  unfold psF
  rw [List.map_append]
  rfl
theorem wD_snoc {wd : Nat} {rows : List Row} {s0 : List Int} {L : List (List Nat)} {i : Nat} {u : List Nat} (h : i ≤ L.length) : wD wd rows s0 (L ++ [u]) i = wD wd rows s0 L i ++ [tI (lrun wd rows s0 u)] := by
  unfold wD
  rw [List.drop_append_of_le_length h, List.map_append]
  rfl
theorem wD_at {wd : Nat} {rows : List Row} {s0 : List Int} {L : List (List Nat)} {i : Nat} {u : List Nat} (h : L[i]? = some u) : wD wd rows s0 L i = tI (lrun wd rows s0 u) :: wD wd rows s0 L (i + 1) := by
  obtain ⟨a, b⟩ := List.getElem?_eq_some_iff.mp h
  unfold wD
  rw [List.drop_eq_getElem_cons a, List.map_cons, b]
theorem drop_ltr {wd l : Nat} {rest : List D} {d : D} (h : d :: rest = ((allL wd).drop l).map tI) : l < (allL wd).length ∧ d = tI (ltr wd l) ∧ rest = ((allL wd).drop (l + 1)).map tI := by
  by_cases hl : l < (allL wd).length
  · rw [List.drop_eq_getElem_cons hl, List.map_cons] at h
    obtain ⟨h1, h2⟩ := List.cons.inj h
    refine ⟨hl, ?_, h2⟩
    rw [h1, ltr, getD_lt hl]
  · rw [List.drop_eq_nil_of_le (by omega)] at h
    cases h
theorem di_mv {X : Cx} {tg e : Expr} {S S1 : DSt} {wd : Nat} {rows : List Row} (h : DE X e S (.dat (mvD wd rows)) S1) : DI X tg e S ((allL wd).map tI) S1 := by
  have q := di_keys (tg := tg) h
  have e : keysD (mvP wd rows) = (allL wd).map tI := by
    have := mv_keys rows (allL wd) 0
    unfold keysD
    exact (by rw [List.map_map]; rfl : (mvP wd rows).map (fun p => D.tup (p.1.map .int)) = ((mvP wd rows).map (·.1)).map tI).trans (by rw [this])
  rw [e] at q
  exact q
theorem g_words_to_lots (M : Mod K mg) (c1 : C_next_lot P w K mg base) : C_words_to_lots P w K mg base := by
  refine calP (k := 1) M.words_to_lots sc_words_to_lots 3 (fun ds r h => ?_) fun ds r h f cdv A outer s H hr => ?_
  · obtain ⟨wd, o, rows, v, s0, rfl, _⟩ := h
    rfl
  · obtain ⟨wd, o, rows, v, s0, rfl, hR, hv, hs0, rfl⟩ := h
    have hn := hR.most
    have card := fun L i l I => l_card hR hs0 L i l I
    have hnn : rows.length * rows.length ≤ 256 := Nat.mul_le_mul hn hn
    let st : List (List Nat) → Nat → Option U → Option U → Option U → DSt := fun L i t1 t2 t3 => ⟨[some (.dat (mvD wd rows)), some (.dat v), some (.dat (.int (rows.length * rows.length : Nat))), some (.own 1), some (.own 2), t1, t2, t3], [none, some (.pd (psF wd rows s0 L)), some (.lst (wD wd rows s0 L i))]⟩
    refine ex_cons (ds_set (i := 3) (de_disp1 hr.u1 (de_tupleS M.blt.tuple (de_var 1 rfl) hv) (de_lst da_nil (.dl _)) (.ow 1 _ (by decide) rfl)) sc_words_to_lots.nd) ?_
    refine ex_cons (ds_set (i := 4) (de_lst (da_cons (de_tupleS M.blt.tuple (de_var 1 rfl) hv) da_nil) (.ow 2 _ (by decide) rfl)) sc_words_to_lots.nd) ?_
    refine ex_while (fun n S => ∃ L i t1 t2 t3, S = st L i t1 t2 t3 ∧ LInv wd rows s0 L i 0 ∧ n + i = rows.length * rows.length + 1 ∧ BF.bfs (lstep wd rows) s0 (allL wd).length n L i = lotsF wd rows s0) (n := rows.length * rows.length + 1) ⟨[[]], 0, none, none, none, rfl, BF.inv_start _ _ _, rfl, rfl⟩ ?_
    rintro n S ⟨L, i, t1, t2, t3, rfl, I, hni, hbfs⟩
    have hLB := card _ _ _ I
    have hiL := I.le
    have hps : (psF wd rows s0 L).length = L.length := by rw [psF, List.length_map]
    cases e : L[i]? with
    | none =>
      have h1 := List.getElem?_eq_none_iff.mp e
      left
      have hemp : wD wd rows s0 L i = [] := by rw [wD, List.drop_eq_nil_of_le h1]; rfl
      refine ⟨_, DW.dt (dw_andF (dt_to (dt_neNil hr.u64 (de_var 4 rfl) (.lst rfl) good_wD) (by rw [hemp]; rfl))), ?_⟩
      rw [BF.bfs_end h1] at hbfs
      rw [← hbfs]
      exact runs_retLk (de_var 3 rfl) rfl
    | some u =>
      obtain ⟨hi, hu⟩ := List.getElem?_eq_some_iff.mp e
      have hw := wD_at (wd := wd) (rows := rows) (s0 := s0) e
      right
      refine ⟨_, DW.dt (dw_andT (dt_to (dt_neNil hr.u64 (de_var 4 rfl) (.lst rfl) good_wD) (by rw [hw]; rfl)) (dw_and1 (dt_to (dt_leI (de_lenD M.blt.len (de_var 3 rfl) (.own rfl)) (de_var 2 rfl)) (by rw [hps]; simp; omega)))), ?_⟩
      have hwz : (wD wd rows s0 L i).length ≤ 1000000 := by rw [wD, List.length_map, List.length_drop]; omega
      refine ex_cons (ds_set (i := 5) (de_popAt (n := 2) (d := tI (lrun wd rows s0 u)) (de_var 4 rfl) de_int rfl rfl (by decide) (by rw [hw]; rfl) hwz) sc_words_to_lots.nd) ?_
      have hw2 : (wD wd rows s0 L i).eraseIdx (0 : Int).toNat = wD wd rows s0 L (i + 1) := by rw [hw]; rfl
      rw [hw2]
      refine ex_for (T := .one 6) (fun ds S => ∃ L' l t2 t3, ds = ((allL wd).drop l).map tI ∧ S = ⟨[some (.dat (mvD wd rows)), some (.dat v), some (.dat (.int (rows.length * rows.length : Nat))), some (.own 1), some (.own 2), some (.dat (tI (lrun wd rows s0 u))), t2, t3], [none, some (.pd (psF wd rows s0 L')), some (.lst (wD wd rows s0 L' (i + 1)))]⟩ ∧
        LInv wd rows s0 L' i l ∧ L'[i]? = some u ∧ l ≤ (allL wd).length ∧ BF.extF (lstep wd rows) s0 u ((allL wd).length - l) l L' = BF.extF (lstep wd rows) s0 u (allL wd).length 0 L) (ds := (allL wd).map tI) rfl (di_mv (de_var 0 rfl)) (pg_name sc_words_to_lots.nd rfl (.inl rfl)) ⟨L, 0, t2, t3, rfl, rfl, I, e, Nat.zero_le _, rfl⟩ ?_ ?_
      · rintro d rest S ⟨L', l, t2, t3, e1, rfl, I', hu', hl', hext⟩
        obtain ⟨hl, rfl, rfl⟩ := drop_ltr e1
        have hz := okLot_run hR u hs0 (I'.dig u (List.mem_of_getElem? hu'))
        have hnx : nextL wd rows (lrun wd rows s0 u) (ltr wd l) = lrun wd rows s0 (u ++ [l]) := by
          unfold lrun
          rw [BF.run_snoc]
        have hLB' := card _ _ _ I'
        have hps' : (psF wd rows s0 L').length = L'.length := by rw [psF, List.length_map]
        have hext2 : BF.extF (lstep wd rows) s0 u ((allL wd).length - (l + 1)) (l + 1) (BF.add1 (lstep wd rows) s0 L' u l) = BF.extF (lstep wd rows) s0 u (allL wd).length 0 L := by
          rw [← hext]
          have : (allL wd).length - l = ((allL wd).length - (l + 1)) + 1 := by omega
          rw [this]
          rfl
        have I2 := I'.add1 hu' hl
        have hu2 := BF.add1_at (step := lstep wd rows) (s0 := s0) (l := l) hu'
        refine ⟨_, rfl, ex_cons (ds_set (i := 7) (de_tupleL M.blt.tuple (de_cP c1 hr (da_cons (de_var 0 rfl) (da_cons (de_var 5 rfl) (da_cons (de_var 6 rfl) da_nil))) ⟨wd, o, rows, _, lrun wd rows s0 u, ltr wd l, rfl, hR, .inr rfl, ltr_mem hl, hz.inm, by have := hz.two; omega, rfl⟩ (.new (.dl _))) (.dat _)) sc_words_to_lots.nd) ?_⟩
        rw [hnx]
        rcases Classical.em (lrun wd rows s0 (u ++ [l]) ∈ L'.map (lrun wd rows s0)) with hin | hin
        · have hadd : BF.add1 (lstep wd rows) s0 L' u l = L' := BF.add1_old hin
          rw [hadd] at hext2 I2
          have hv2 : (val (psF wd rows s0 L') (lrun wd rows s0 (u ++ [l]))).isSome = true := by
            exact val_some.mpr (by rw [psF_keys]; exact hin)
          refine ex_ifN (dt_to (dt_dnotin hr.u1 (de_var 7 rfl) (de_var 3 rfl) (.own rfl)) (by rw [hv2]; rfl)) (ex_nil ⟨L', l + 1, _, _, rfl, rfl, I2, hu', hl, hext2⟩)
        · have hadd : BF.add1 (lstep wd rows) s0 L' u l = L' ++ [u ++ [l]] := BF.add1_new hin
          rw [hadd] at hext2 I2 hu2
          have hv2 : (val (psF wd rows s0 L') (lrun wd rows s0 (u ++ [l]))).isSome = false := by
            cases q : (val (psF wd rows s0 L') (lrun wd rows s0 (u ++ [l]))).isSome with
            | false => rfl
            | true =>
              have := val_some.mp q
              rw [psF_keys] at this
              exact absurd this hin
          have hv3 := psF_val (wd := wd) (rows := rows) (s0 := s0) I'.dist (List.mem_of_getElem? hu')
          have hlen : (lw wd u).length ≤ 1000 := by
            have := I'.len i u hu'
            rw [lw, List.length_map]
            omega
          refine ex_ifT (dt_to (dt_dnotin hr.u1 (de_var 7 rfl) (de_var 3 rfl) (.own rfl)) (by rw [hv2]; rfl)) ?_
          refine ex_cons (ds_dput (n := 1) hr.u1 (de_cat (de_dget hr.u1 (de_var 3 rfl) (de_var 5 rfl) (.own rfl) hv3) (de_lst (da_cons (de_var 6 rfl) da_nil) (.dl _)) (.dat _) (.dat _) (by rw [List.length_map]; simp; omega) (.dl _)) (de_var 3 rfl) (de_var 7 rfl) rfl (by rw [hps']; omega)) ?_
          have hput : put (psF wd rows s0 L') (lrun wd rows s0 (u ++ [l])) (.lst ((lw wd u).map tI ++ [tI (ltr wd l)])) = psF wd rows s0 (L' ++ [u ++ [l]]) := by
            rw [put_new (by rw [psF_keys]; exact hin), psF_snoc, lw_snoc, List.map_append]
            rfl
          rw [hput]
          have hw3 : (wD wd rows s0 L' (i + 1)).length ≤ 1000000 := by rw [wD, List.length_map, List.length_drop]; omega
          refine ex_cons (ds_expr (de_append (n := 2) (de_var 4 rfl) (de_var 7 rfl) rfl rfl hw3)) (ex_nil (ex_nil ?_))
          refine ⟨L' ++ [u ++ [l]], l + 1, some (.dat (tI (ltr wd l))), some (.dat (tI (lrun wd rows s0 (u ++ [l])))), rfl, ?_, I2, hu2, hl, hext2⟩
          rw [wD_snoc (List.getElem?_eq_some_iff.mp hu').1]
          rfl
      · rintro S ⟨L', l, t2, t3, e1, rfl, I', hu', hl', hext⟩
        have hlk : l = (allL wd).length := by
          have := congrArg List.length e1
          rw [List.length_nil, List.length_map, List.length_drop] at this
          omega
        subst hlk
        rw [Nat.sub_self] at hext
        refine ex_nil ⟨n - 1, by omega, L', i + 1, _, t2, t3, rfl, I'.turn (List.getElem?_eq_some_iff.mp hu').1, by omega, ?_⟩
        rw [← hbfs]
        obtain ⟨n', rfl⟩ : ∃ j, n = j + 1 := ⟨n - 1, by omega⟩
        have hb : BF.bfs (lstep wd rows) s0 (allL wd).length (n' + 1) L i = BF.bfs (lstep wd rows) s0 (allL wd).length n' (BF.extF (lstep wd rows) s0 u (allL wd).length 0 L) (i + 1) := by
          show (match L[i]? with
            | none => L
            | some u => BF.bfs (lstep wd rows) s0 (allL wd).length n' (BF.extF (lstep wd rows) s0 u (allL wd).length 0 L) (i + 1)) = _
          rw [e]
        rw [hb, ← hext]
        rfl
end K82
namespace K82
open PySem PySem.Spec PyProof.Rows L2 DL
variable {P : Program} {w : World} {K : PySem.W.Frag} {mg : Str → Option Value} {base : Heap} {C : Addr}
def oneL (wd : Nat) (rows : List Row) (s0 : List Int) (u : List Nat) : Bool := (lrun wd rows s0 u).length == 1
/-- a word or nothing, the caller's own -/
def wordR (wd : Nat) : Option (List Nat) → Res
  | some u => .new ((lw wd u).map tI)
  | none => .dat .non
def R_word_together (ds : List D) (r : Res) : Prop := ∃ (wd : Nat) (rows : List Row) (s0 : List Int) (L : List (List Nat)), ds = [.lkd (kOf (psF wd rows s0 L)) (vOf (psF wd rows s0 L))] ∧ L.length ≤ 5000 ∧ r = wordR wd (L.find? (oneL wd rows s0))
abbrev C_word_together (P : Program) (w : World) (K : PySem.W.Frag) (mg : Str → Option Value) (base : Heap) : Prop := CE P w K mg base 1 "word_together" s_word_together p_word_together R_word_together
theorem g_word_together (M : Mod K mg) : C_word_together P w K mg base := by
  refine calP (k := 0) M.word_together sc_word_together 2 (fun ds r h => ?_) fun ds r h f cdv A outer s H hr => ?_
  · obtain ⟨wd, rows, s0, L, rfl, _⟩ := h
    rfl
  · obtain ⟨wd, rows, s0, L, rfl, hz, rfl⟩ := h
    refine ex_for (T := .tup [1, 2]) (fun ds S => ∃ L' t1 t2, ds = itemsD (psF wd rows s0 L') ∧ S = ⟨[some (.dat (.lkd (kOf (psF wd rows s0 L)) (vOf (psF wd rows s0 L)))), t1, t2], [none, none]⟩ ∧ L'.find? (oneL wd rows s0) = L.find? (oneL wd rows s0)) rfl (di_items (de_var 0 rfl)) (tg_two rfl sc_word_together.nd) ⟨L, none, none, rfl, rfl, rfl⟩ ?_ ?_
    · rintro d rest S ⟨L', t1, t2, e, rfl, hf⟩
      cases L' with
      | nil => cases e
      | cons u L' =>
        have e0 : itemsD (psF wd rows s0 (u :: L')) = .tup [tI (lrun wd rows s0 u), .lst ((lw wd u).map tI)] :: itemsD (psF wd rows s0 L') := rfl
        rw [e0] at e
        obtain ⟨rfl, rfl⟩ := List.cons.inj e
        refine ⟨_, rfl, ?_⟩
        cases q : oneL wd rows s0 u with
        | true =>
          rw [List.find?_cons_of_pos q] at hf
          rw [← hf]
          have q2 : (lrun wd rows s0 u).length = 1 := by simpa [oneL] using q
          exact ex_ifT (dt_to (dt_eqI (de_len M.blt.len (de_var 1 rfl) (.tup _)) de_int) (by rw [List.length_map, q2]; rfl)) (ex_ret (de_listL M.blt.list (de_var 2 rfl) (.dat _) (.ow 1 _ (by decide) rfl)) (.new (by decide) rfl))
        | false =>
          rw [List.find?_cons_of_neg (by rw [q]; exact Bool.false_ne_true)] at hf
          have q2 : (lrun wd rows s0 u).length ≠ 1 := by simpa [oneL] using q
          exact ex_ifN (dt_to (dt_eqI (de_len M.blt.len (de_var 1 rfl) (.tup _)) de_int) (by rw [List.length_map]; simp; omega)) (ex_nil ⟨L', _, _, rfl, rfl, hf⟩)
    · rintro S ⟨L', t1, t2, e, rfl, hf⟩
      cases L' with
      | nil =>
        rw [List.find?_nil] at hf
        rw [← hf]
        exact ex_ret de_non .dat
      | cons u L' => cases e
/-! ### meeting_by, meeting -/
def meetW (wd : Nat) (rows : List Row) (a b : Nat) : Option (List Nat) := (lotsF wd rows (sset [(a : Int), (b : Int)])).find? (oneL wd rows (sset [(a : Int), (b : Int)]))
theorem okLot_two {n a b : Nat} (ha : a < n) (hb : b < n) : okLot n (sset [(a : Int), (b : Int)]) := by
  refine ⟨fun e => ?_, ?_, sset_sorted _, fun s hs => ?_⟩
  · have : (a : Int) ∈ sset [(a : Int), (b : Int)] := mem_sset.mpr (by simp)
    rw [e] at this
    cases this
  · have h1 : (sset [(a : Int), (b : Int)]).Nodup := (sset_sorted _).imp fun {a b} hab => by omega
    exact nodup_len h1 (b := [(a : Int), (b : Int)]) fun x hx => mem_sset.mp hx
  · have := mem_sset.mp hs
    simp at this
    omega
theorem lotsF_inv {wd o : Nat} {rows : List Row} (h : RowsOk wd o rows) {s0 : List Int} (k : okLot rows.length s0) : LInv wd rows s0 (lotsF wd rows s0) (lotsF wd rows s0).length 0 :=
  BF.bfs_inv (rows.length * rows.length) (fun L i l I => l_card h k L i l I) _ _ _ (BF.inv_start _ _ _) (by omega)
def R_meeting_by (C : Addr) (ds : List D) (r : Res) : Prop := ∃ (wd o : Nat) (rows : List Row) (a b : Nat), ds = [macD C wd o rows, .int a, .int b] ∧ RowsOk wd o rows ∧ a < rows.length ∧ b < rows.length ∧ r = wordR wd (meetW wd rows a b)
abbrev C_meeting_by (P : Program) (w : World) (K : PySem.W.Frag) (mg : Str → Option Value) (base : Heap) (C : Addr) : Prop := CE P w K mg base 4 "meeting_by" s_meeting_by p_meeting_by (R_meeting_by C)
theorem wordR_made {wd : Nat} {x : Option (List Nat)} {S : DSt} (h : S.m[1]? = some none) : ∃ z S', MadeR S (wordR wd x) z S' ∧ EndR (.rt z S') (wordR wd x) := by
  cases x with
  | none => exact ⟨_, _, .dat _, .dat⟩
  | some u =>
    refine ⟨_, _, .new (.ow 1 _ (by decide) h), .new (by decide) ?_⟩
    exact List.getElem?_set_self (List.getElem?_eq_some_iff.mp h).1
theorem g_meeting_by (M : Mod K mg) (MC : Mac K mg C) (c1 : C_moves_of P w K mg base C) (c2 : C_words_to_lots P w K mg base) (c3 : C_word_together P w K mg base) : C_meeting_by P w K mg base C := by
  refine calP (k := 3) M.meeting_by sc_meeting_by 2 (fun ds r h => ?_) fun ds r h f cdv A outer s H hr => ?_
  · obtain ⟨wd, o, rows, a, b, rfl, _⟩ := h
    rfl
  · obtain ⟨wd, o, rows, a, b, rfl, hR, ha, hb, rfl⟩ := h
    obtain ⟨g, gd, hF, hm, hbd⟩ := MC.len
    have hn := hR.most
    have hk := okLot_two ha hb
    have hL := l_card hR hk _ _ _ (lotsF_inv hR hk)
    have hnn : rows.length * rows.length ≤ 256 := Nat.mul_le_mul hn hn
    obtain ⟨z, S', h1, h2⟩ := wordR_made (wd := wd) (x := meetW wd rows a b) (S := st0 n_meeting_by [macD C wd o rows, .int a, .int b] 2) rfl
    refine runs_ret (de_cP c3 hr (da_cons (de_cP c2 hr (da_cons (de_cP c1 hr (da_cons (de_var 0 rfl) da_nil) ⟨wd, o, rows, rfl, hR, rfl⟩ (.dat _)) (by exact da_cons (de_sset (ns := [(a : Int), (b : Int)]) rfl M.blt.sorted M.blt.set (de_lst (da_cons (de_var 1 rfl) (da_cons (de_var 2 rfl) da_nil)) (.dl _)) (.dat _) (by simp) (.dl _)) (by exact da_cons (de_to (u' := .dat (.int ((rows.length * rows.length : Nat) : Int))) (de_mul (i := rows.length) (j := rows.length) (de_lenC (de_var 0 rfl) hm.at_ hm.fn (g_Clen M MC hF) hbd (hr.mono (by decide)) ⟨wd, o, rows, rfl, rfl⟩ (by omega) M.blt.len) (de_lenC (de_var 0 rfl) hm.at_ hm.fn (g_Clen M MC hF) hbd (hr.mono (by decide)) ⟨wd, o, rows, rfl, rfl⟩ (by omega) M.blt.len) (.inl (by omega))) (by rw [Int.natCast_mul])) da_nil)))
      ⟨wd, o, rows, _, sset [(a : Int), (b : Int)], rfl, hR, .inl rfl, hk, rfl⟩ (.dat _)) da_nil) ⟨wd, rows, sset [(a : Int), (b : Int)], _, rfl, by omega, rfl⟩ h1) h2
end K82
namespace K82
open PySem PySem.Spec PyProof.Rows L2 DL
variable {P : Program} {w : World} {K : PySem.W.Frag} {mg : Str → Option Value} {base : Heap} {C : Addr}
/-! ### pair_behind -/
def mn (a b : Int) : Int := if b < a then b else a
def mx (a b : Int) : Int := if b > a then b else a
/-- the pair behind a pair -/
def beh (wd : Nat) (rows : List Row) (p l : List Int) : List Int := [mn (go wd rows (p.getD 0 0) l) (go wd rows (p.getD 1 0) l), mx (go wd rows (p.getD 0 0) l) (go wd rows (p.getD 1 0) l)]
def R_pair_behind (ds : List D) (r : Res) : Prop := ∃ (wd o : Nat) (rows : List Row) (a b : Int) (l : List Int), ds = [mvD wd rows, tI [a, b], tI l] ∧ RowsOk wd o rows ∧ l ∈ allL wd ∧ inM rows.length [a, b] ∧ r = .dat (tI (beh wd rows [a, b] l))
abbrev C_pair_behind (P : Program) (w : World) (K : PySem.W.Frag) (mg : Str → Option Value) (base : Heap) : Prop := CE P w K mg base 1 "pair_behind" s_pair_behind p_pair_behind R_pair_behind
theorem g_pair_behind (M : Mod K mg) : C_pair_behind P w K mg base := by
  refine calP (k := 0) M.pair_behind sc_pair_behind 0 (fun ds r h => ?_) fun ds r h f cdv A outer s H hr => ?_
  · obtain ⟨wd, o, rows, a, b, l, rfl, _⟩ := h
    rfl
  · obtain ⟨wd, o, rows, a, b, l, rfl, hR, hl, hm, rfl⟩ := h
    refine Ex.runs (ex_cons (ds_asgL (is := [3, 4]) rfl (de_lcD (es := [.int (go wd rows a l), .int (go wd rows b l)]) [("state", 5)] (fun d => match d with
      | .int s => .int (go wd rows s l)
      | d => d) (T := .one 5) rfl sc_pair_behind.nd (di_tup (de_var 1 rfl)) (blkOk_by (N := n_pair_behind) (sc := defScope s_pair_behind) (by decide +kernel)) rfl (fun _ _ _ _ _ => pg_name sc_pair_behind.nd rfl (.inl rfl)) (fun d hd => ?_) rfl (by simp)) (pgs_cons (pg_name sc_pair_behind.nd rfl (.inl rfl)) (pgs_cons (pg_name sc_pair_behind.nd rfl (.inl rfl)) pgs_nil)))
      (ex_ret (de_tup (da_cons (de_min2 rfl M.blt.min (de_var 3 rfl) (de_var 4 rfl)) (da_cons (de_max2 rfl M.blt.max (de_var 3 rfl) (de_var 4 rfl)) da_nil))) .dat))
    obtain ⟨s, hs, rfl⟩ := List.mem_map.mp hd
    exact ⟨_, _, rfl, fun _ _ _ _ _ => de_move hr.u1 (de_var 0 rfl) (de_var 2 rfl) (de_var 5 rfl) hl (hm s hs).1 (hm s hs).2, rfl⟩
/-! ### is_pair_of -/
def isPr (n : Nat) : D → Bool
  | .tup ds => ds.length == 2 && isLot n (.tup ds)
  | _ => false
def R_is_pair_of (C : Addr) (ds : List D) (r : Res) : Prop := ∃ (wd o : Nat) (rows : List Row) (v : D), ds = [macD C wd o rows, v] ∧ rows.length ≤ 16 ∧ okV v ∧ r = .dat (.bl (isPr rows.length v))
abbrev C_is_pair_of (P : Program) (w : World) (K : PySem.W.Frag) (mg : Str → Option Value) (base : Heap) (C : Addr) : Prop := CE P w K mg base 5 "is_pair_of" s_is_pair_of p_is_pair_of (R_is_pair_of C)
theorem g_is_pair_of (M : Mod K mg) (c1 : C_is_lot P w K mg base C) : C_is_pair_of P w K mg base C := by
  refine calP (k := 4) M.is_pair_of sc_is_pair_of 0 (fun ds r h => ?_) fun ds r h f cdv A outer s H hr => ?_
  · obtain ⟨wd, o, rows, v, rfl, _⟩ := h
    rfl
  · obtain ⟨wd, o, rows, v, rfl, hz, hv, rfl⟩ := h
    by_cases ht : ∃ ds, v = .tup ds
    · obtain ⟨ds, rfl⟩ := ht
      have hlz := (hv.mem ds (.inr rfl)).1
      cases q : (ds.length == 2) with
      | false =>
        have e : isPr rows.length (.tup ds) = false := by simp [isPr, q]
        rw [e]
        refine runs_ret (de_andT (de_isi M.blt.isinstance (de_var 1 rfl) (de_bltn M.blt.tuple PyProof.Rows.boot_tuple) (.dat _) ok_tup) (de_andF (de_to (de_eqI (de_len M.blt.len (de_var 1 rfl) (.tup _)) de_int) ?_))) .dat
        have : ds.length ≠ 2 := by simpa using q
        simp
        omega
      | true =>
        have e : isPr rows.length (.tup ds) = isLot rows.length (.tup ds) := by simp [isPr, q]
        rw [e]
        have : ds.length = 2 := by simpa using q
        exact runs_ret (de_andT (de_isi M.blt.isinstance (de_var 1 rfl) (de_bltn M.blt.tuple PyProof.Rows.boot_tuple) (.dat _) ok_tup) (de_andT (de_to (de_eqI (de_len M.blt.len (de_var 1 rfl) (.tup _)) de_int) (by rw [this]; rfl))
          (de_one (de_cP c1 hr (da_cons (de_var 0 rfl) (da_cons (de_var 1 rfl) da_nil)) ⟨wd, o, rows, _, rfl, hz, hv, rfl⟩ (.dat _))))) .dat
    · have e : isPr rows.length v = false := by
        cases v with
        | tup ds => exact absurd ⟨ds, rfl⟩ ht
        | _ => rfl
      have e2 : isiT (tyN v) "tuple" = false := by
        cases v with
        | tup ds => exact absurd ⟨ds, rfl⟩ ht
        | _ => rfl
      rw [e]
      exact runs_ret (de_andF (de_to (de_isi M.blt.isinstance (de_var 1 rfl) (de_bltn M.blt.tuple PyProof.Rows.boot_tuple) (.dat _) hv.ok) (by rw [e2]))) .dat
end K82
namespace K82
open PySem PySem.Spec PyProof.Rows L2 DL
variable {P : Program} {w : World} {K : PySem.W.Frag} {mg : Str → Option Value} {base : Heap} {C : Addr}
/-! ### pairs_apart -/
def pairsN (n : Nat) : List (List Int) := (List.range n).flatMap fun i => (List.range (n - (i + 1))).map fun j => [(i : Int), ((i : Int) + 1) + (j : Nat)]
def keepB (wd : Nat) (rows : List Row) (ps : List (List Int)) (p : List Int) : Bool := (allL wd).all fun l => decide (beh wd rows p l ∈ ps)
def keepF (wd : Nat) (rows : List Row) (ps : List (List Int)) : List (List Int) := ps.filter (keepB wd rows ps)
def fixF (wd : Nat) (rows : List Row) : Nat → List (List Int) → List (List Int)
  | 0, ps => ps
  | k + 1, ps => if (keepF wd rows ps).length < ps.length then fixF wd rows k (keepF wd rows ps) else keepF wd rows ps
def apartF (wd : Nat) (rows : List Row) : List (List Int) := fixF wd rows ((pairsN rows.length).length + 1) (pairsN rows.length)
def numsD : List D → List Int
  | [] => []
  | .int i :: ds => i :: numsD ds
  | _ :: ds => numsD ds
theorem numsD_map : ∀ l : List Int, numsD (l.map .int) = l
  | [] => rfl
  | i :: l => by rw [List.map_cons, numsD, numsD_map]
def tupI : D → List Int
  | .tup xs => numsD xs
  | _ => []
theorem tupI_tI (l : List Int) : tupI (tI l) = l := numsD_map l
/-- a pair of states -/
def isP (n : Nat) (p : List Int) : Prop := ∃ a b : Int, p = [a, b] ∧ 0 ≤ a ∧ a < b ∧ b < n
theorem pairsN_ok {n : Nat} {p : List Int} (h : p ∈ pairsN n) : isP n p := by
  obtain ⟨i, hi, h⟩ := List.mem_flatMap.mp h
  obtain ⟨j, hj, rfl⟩ := List.mem_map.mp h
  have := List.mem_range.mp hi
  have := List.mem_range.mp hj
  exact ⟨_, _, rfl, by omega, by omega, by omega⟩
theorem pairsN_nodup (n : Nat) : (pairsN n).Nodup := by
  unfold pairsN
  refine List.pairwise_flatMap.mpr ⟨fun i _ => ?_, ?_⟩
  · refine List.pairwise_map.mpr (List.nodup_range.imp ?_)
    intro a b hab e
    simp at e
    omega
  · refine List.nodup_range.imp ?_
    intro a b hab x hx y hy e
    obtain ⟨j, _, rfl⟩ := List.mem_map.mp hx
    obtain ⟨j2, _, rfl⟩ := List.mem_map.mp hy
    simp at e
    omega
theorem pairsN_len {n : Nat} (h : n ≤ 16) : (pairsN n).length ≤ 256 := by
  have := lots_card (n := n) (pairsN_nodup n) fun p hp => by
    obtain ⟨a, b, rfl, h1, h2, h3⟩ := pairsN_ok hp
    refine ⟨by simp, by simp, by simp; exact h2, fun s hs => ?_⟩
    simp at hs
    omega
  have : n * n ≤ 16 * 16 := Nat.mul_le_mul h h
  omega
def R_pairs_apart (C : Addr) (ds : List D) (r : Res) : Prop := ∃ (wd o : Nat) (rows : List Row), ds = [macD C wd o rows] ∧ RowsOk wd o rows ∧ r = .new ((apartF wd rows).map tI)
abbrev C_pairs_apart (P : Program) (w : World) (K : PySem.W.Frag) (mg : Str → Option Value) (base : Heap) (C : Addr) : Prop := CE P w K mg base 4 "pairs_apart" s_pairs_apart p_pairs_apart (R_pairs_apart C)
def psP (ps : List (List Int)) : Ps := ps.map fun p => (p, .bl true)
theorem psP_keys (ps : List (List Int)) : (psP ps).map (·.1) = ps := by
  unfold psP
  rw [List.map_map]
  exact List.map_id ps
theorem psP_in {ps : List (List Int)} {k : List Int} : (val (psP ps) k).isSome = decide (k ∈ ps) := by
  rw [val_isSome]
  exact decide_eq_decide.mpr (by rw [psP_keys])
theorem keep_sub {wd : Nat} {rows : List Row} {ps : List (List Int)} : (keepF wd rows ps).Sublist ps := List.filter_sublist
theorem fix_fuel {wd : Nat} {rows : List Row} : ∀ (n : Nat) (ps : List (List Int)) (k : Nat), ps.length ≤ n → ps.length < k → fixF wd rows k ps = fixF wd rows (ps.length + 1) ps := by
  intro n
  induction n with
  | zero =>
    intro ps k hn hk
    obtain ⟨k, rfl⟩ : ∃ j, k = j + 1 := ⟨k - 1, by omega⟩
    have : ps = [] := List.eq_nil_of_length_eq_zero (by omega)
    subst this
    rfl
  | succ n ih =>
    intro ps k hn hk
    obtain ⟨k, rfl⟩ : ∃ j, k = j + 1 := ⟨k - 1, by omega⟩
    show (if (keepF wd rows ps).length < ps.length then _ else _) = if (keepF wd rows ps).length < ps.length then _ else _
    by_cases hlt : (keepF wd rows ps).length < ps.length
    · rw [if_pos hlt, if_pos hlt, ih _ k (by omega) (by omega), ih _ ps.length (by omega) hlt]
    · rw [if_neg hlt, if_neg hlt]
theorem g_pairs_apart (M : Mod K mg) (MC : Mac K mg C) (c1 : C_moves_of P w K mg base C) (c2 : C_pair_behind P w K mg base) : C_pairs_apart P w K mg base C := by
  refine calP (k := 3) M.pairs_apart sc_pairs_apart 2 (fun ds r h => ?_) fun ds r h f cdv A outer s H hr => ?_
  · obtain ⟨wd, o, rows, rfl, _⟩ := h
    rfl
  · obtain ⟨wd, o, rows, rfl, hR, rfl⟩ := h
    obtain ⟨g, gd, hF, hm, hbd⟩ := MC.len
    have hn := hR.most
    refine Ex.runs (ex_cons (ds_asgT (is := [1, 2]) (ds := [mvD wd rows, .int rows.length]) (de_tup (da_cons (de_cP c1 hr (da_cons (de_var 0 rfl) da_nil) ⟨wd, o, rows, rfl, hR, rfl⟩ (.dat _)) (by exact da_cons (de_lenC (de_var 0 rfl) hm.at_ hm.fn (g_Clen M MC hF) hbd (hr.mono (by decide)) ⟨wd, o, rows, rfl, rfl⟩ (by omega) M.blt.len) da_nil))) (tg_two rfl sc_pairs_apart.nd)) ?_)
    refine ex_cons (ds_setLc2 (T := .one 7) (T1 := .one 8) (i := 3) (own := [("one", 7), ("other", 8)]) (vs1 := [8]) (m' := [none, none]) (es := (pairsN rows.length).map tI) rfl sc_pairs_apart.nd (di_rng M.blt.range (de_var 2 rfl) (by omega)) (blkOk_by (N := n_pairs_apart) (sc := defScope s_pairs_apart) (by decide +kernel)) (by decide) rfl rfl
      (fun _ _ _ _ _ => pg_name sc_pairs_apart.nd rfl (.inl rfl)) (fun _ _ _ _ _ => pg_name sc_pairs_apart.nd rfl (.inl rfl)) ?_ (.dl _) (by simp [rngN]; omega) (sw_true rfl rfl rfl (by decide +kernel))) ?_
    · have e : (pairsN rows.length).map tI = (rngN rows.length).flatMap fun d => match d with
        | .int i => (rngD (i + 1) ((rows.length : Int) - (i + 1)).toNat).map fun e => .tup [.int i, e]
        | _ => [] := by
        unfold pairsN rngN rngD
        rw [List.map_flatMap, List.flatMap_map]
        congr 1
        funext i
        rw [List.map_map]
        have : ((rows.length : Int) - ((i : Int) + 1)).toNat = rows.length - (i + 1) := by omega
        show _ = List.map _ (List.map _ (List.range ((rows.length : Int) - ((i : Int) + 1)).toNat))
        rw [this, List.map_map]
        rfl
      rw [e]
      refine lc2_map fun d hd => ?_
      obtain ⟨i, hi, rfl⟩ := List.mem_map.mp hd
      have := List.mem_range.mp hi
      refine ⟨_, _, _, rfl, fun _ _ _ _ _ => di_range2 M.blt.range (de_add (de_var 7 rfl) de_int) (de_var 2 rfl) (by omega), rfl, by simp [rngD]; omega, ?_⟩
      exact lc_map fun d hd => ⟨_, _, rfl, fun _ _ _ _ _ => de_tup (da_cons (de_var 7 rfl) (da_cons (de_var 8 rfl) da_nil)), rfl⟩
    refine ex_cons (ds_set (i := 4) de_bl sc_pairs_apart.nd) ?_
    let T0 : List (Option U) := [some (.dat (macD C wd o rows)), some (.dat (mvD wd rows)), some (.dat (.int rows.length))]
    refine ex_while (fun n S => (∃ ps t1 t2, S = ⟨T0 ++ [some (.dat (.lst (ps.map tI))), some (.dat (.bl true)), t1, t2, none, none, none, none], [none, none]⟩ ∧ n = ps.length + 1 ∧ ps.Sublist (pairsN rows.length) ∧ fixF wd rows n ps = apartF wd rows) ∨
      ∃ t1 t2, S = ⟨T0 ++ [some (.own 1), some (.dat (.bl false)), t1, t2, none, none, none, none], [none, some (.lst ((apartF wd rows).map tI))]⟩) (n := (pairsN rows.length).length + 1) (.inl ⟨pairsN rows.length, none, none, rfl, rfl, List.Sublist.refl _, rfl⟩) ?_
    rintro n S (⟨ps, t1, t2, rfl, rfl, hsub, hfix⟩ | ⟨t1, t2, rfl⟩)
    · right
      have hlen : ps.length ≤ 256 := Nat.le_trans hsub.length_le (pairsN_len hn)
      have hnd : ps.Nodup := (pairsN_nodup _).sublist hsub
      have hok : ∀ p ∈ ps, isP rows.length p := fun p hp => pairsN_ok (hsub.subset hp)
      have hmerge : merge [] (psP ps) = psP ps := merge_nil (by rw [psP_keys]; exact hnd)
      refine ⟨_, dt_val (de_var 4 rfl), ?_⟩
      have hdict := hmerge
      refine ex_cons (ds_set (i := 5) (u := .dat (.lkd (kOf (psP ps)) (vOf (psP ps)))) (by rw [← hmerge]; exact de_dictL rfl hr.u8 M.blt.dict (de_lcD (es := (psP ps).map pairD) [("pair", 9)] (fun d => .tup [d, .bl true]) (T := .one 9) rfl sc_pairs_apart.nd (di_lst (de_var 3 rfl)) (blkOk_by (N := n_pairs_apart) (sc := defScope s_pairs_apart) (by decide +kernel)) rfl (fun _ _ _ _ _ => pg_name sc_pairs_apart.nd rfl (.inl rfl)) (fun d hd => ⟨_, _, rfl, fun _ _ _ _ _ => de_tup (da_cons (de_var 9 rfl) (da_cons de_bl da_nil)), rfl⟩) (by unfold psP; rw [List.map_map, List.map_map]; rfl) (by rw [List.length_map]; omega)) (.dat _) (by rw [psP, List.length_map]; omega)) sc_pairs_apart.nd) ?_
      have kept : ∀ t, LcR (BodyX P w K mg base n_pairs_apart "pairs_apart" s_pairs_apart f cdv A outer s H) (cScope (exOf (bodyOf (defBody s_pairs_apart) 3) 1)) (.one 9) (match exOf (bodyOf (defBody s_pairs_apart) 3) 1 with | .ListComp _ [⟨_, _, i, _⟩] _ _ => i | _ => []) (match exOf (bodyOf (defBody s_pairs_apart) 3) 1 with | .ListComp e _ _ _ => e | e => e)
          (T0 ++ [some (.dat (.lst (ps.map tI))), some (.dat (.bl true)), some (.dat (.lkd (kOf (psP ps)) (vOf (psP ps)))), t, none, none, none, none]) (ps.map tI) [none, none] ((keepF wd rows ps).map tI) [none, none] := by
        intro t
        have e : (keepF wd rows ps).map tI = ((ps.map tI).filter fun d => keepB wd rows ps (tupI d)).map id := by
          rw [List.map_id, List.filter_map]
          unfold keepF
          congr 1
          refine List.filter_congr fun p _ => ?_
          show keepB wd rows ps p = keepB wd rows ps (tupI (tI p))
          rw [tupI_tI]
        rw [e]
        refine lc_filt fun d hd => ?_
        obtain ⟨p, hp, rfl⟩ := List.mem_map.mp hd
        obtain ⟨a, b, rfl, h1, h2, h3⟩ := hok p hp
        have hin : inM rows.length [a, b] := fun x hx => by
          simp at hx
          omega
        refine ⟨_, _, _, rfl, bt_one fun _ _ _ _ _ => dt_val (de_to (de_allLc [("letter", 10)] (T := .one 10) (fun d => decide (beh wd rows [a, b] (tupI d) ∈ ps)) rfl M.blt.all sc_pairs_apart.nd (di_mv (de_var 1 rfl)) (blkOk_in (N := n_pairs_apart) (inS (defScope s_pairs_apart) (cScope (exOf (bodyOf (defBody s_pairs_apart) 3) 1))) (by decide +kernel)) rfl (fun _ _ _ _ _ => pg_name sc_pairs_apart.nd rfl (.inl rfl)) (fun d hd => ?_) (by rw [List.length_map]; have := allL_16 hR.w4; omega)) ?_), rfl, fun _ _ _ _ _ => de_var 9 rfl, rfl⟩
        · obtain ⟨l, hl, rfl⟩ := List.mem_map.mp hd
          let Sx : DSt := ⟨T0 ++ [some (.dat (.lst (ps.map tI))), some (.dat (.bl true)), some (.dat (.lkd (kOf (psP ps)) (vOf (psP ps)))), t, none, none, some (.dat (tI [a, b])), some (.dat (tI l))], [none, none]⟩
          refine ⟨Sx, Sx, rfl, fun _ _ _ _ _ => ?_, rfl⟩
          refine de_to (u := .dat (.bl (val (psP ps) (beh wd rows [a, b] l)).isSome)) ?_ (by rw [psP_in, tupI_tI])
          refine de_din (S1 := Sx) hr.u1 ?_ ?_ (.lkd _)
          · exact de_cP c2 hr (da_cons (de_var 1 rfl) (da_cons (de_var 9 rfl) (da_cons (de_var 10 rfl) da_nil))) ⟨wd, o, rows, a, b, l, rfl, hR, hl, hin, rfl⟩ (.dat _)
          · exact de_var 5 rfl
        · rw [List.all_map, tupI_tI]
          unfold keepB
          have e3 : (fun l => decide (beh wd rows [a, b] (tupI (tI l)) ∈ ps)) = fun l => decide (beh wd rows [a, b] l ∈ ps) := funext fun l => by rw [tupI_tI]
          exact congrArg (fun q => U.dat (D.bl ((allL wd).all q))) e3
      by_cases hlt : (keepF wd rows ps).length < ps.length
      · refine ex_cons (ds_setLc (i := 6) (T := .one 9) (own := [("pair", 9)]) (m' := [none, none]) (es := (keepF wd rows ps).map tI) rfl sc_pairs_apart.nd (di_lst (de_var 3 rfl)) (blkOk_by (N := n_pairs_apart) (sc := defScope s_pairs_apart) (by decide +kernel)) rfl (fun _ _ _ _ _ => pg_name sc_pairs_apart.nd rfl (.inr rfl)) (kept t2) (.dl _) (by rw [List.length_map]; omega) (sw_true rfl rfl rfl (by decide +kernel))) ?_
        refine ex_cons (ds_set (i := 4) (de_to (u' := .dat (.bl true)) (de_ltI (de_len M.blt.len (de_var 6 rfl) (.lst (.dat _))) (de_len M.blt.len (de_var 3 rfl) (.lst (.dat _)))) (by simp [hlt])) sc_pairs_apart.nd) (ex_cons (ds_set (i := 3) (de_var 6 rfl) sc_pairs_apart.nd) (ex_nil ⟨(keepF wd rows ps).length + 1, by omega, .inl ⟨keepF wd rows ps, _, _, rfl, rfl, keep_sub.trans hsub, ?_⟩⟩))
        rw [← hfix]
        have e4 : fixF wd rows (ps.length + 1) ps = fixF wd rows ps.length (keepF wd rows ps) := by
          show (if (keepF wd rows ps).length < ps.length then _ else _) = _
          rw [if_pos hlt]
        rw [e4]
        exact (fix_fuel _ _ _ (Nat.le_refl _) hlt).symm
      · refine ex_cons (ds_setLc (i := 6) (T := .one 9) (own := [("pair", 9)]) (m' := [none, none]) (es := (keepF wd rows ps).map tI) rfl sc_pairs_apart.nd (di_lst (de_var 3 rfl)) (blkOk_by (N := n_pairs_apart) (sc := defScope s_pairs_apart) (by decide +kernel)) rfl (fun _ _ _ _ _ => pg_name sc_pairs_apart.nd rfl (.inr rfl)) (kept t2) (.ow 1 _ (by decide) rfl) (by rw [List.length_map]; omega) (sw_true rfl rfl rfl (by decide +kernel))) ?_
        refine ex_cons (ds_set (i := 4) (de_to (u' := .dat (.bl false)) (de_ltI (de_len M.blt.len (de_var 6 rfl) (.lst (.own rfl))) (de_len M.blt.len (de_var 3 rfl) (.lst (.dat _)))) (by simp; omega)) sc_pairs_apart.nd) (ex_cons (ds_set (i := 3) (de_var 6 rfl) sc_pairs_apart.nd) (ex_nil ⟨0, by omega, .inr ⟨some (.dat (.lkd (kOf (psP ps)) (vOf (psP ps)))), some (.own 1), ?_⟩⟩))
        have : apartF wd rows = keepF wd rows ps := by
          rw [← hfix, fixF, if_neg hlt]
        rw [this]
        rfl
    · left
      exact ⟨_, dt_val (de_var 4 rfl), ex_ret (de_var 3 rfl) (.new (by decide) rfl)⟩
end K82
namespace K82
open PySem PySem.Spec PyProof.Rows L2 DL
variable {P : Program} {w : World} {K : PySem.W.Frag} {mg : Str → Option Value} {base : Heap} {C : Addr}
/-! ### apart -/
theorem fixF_sub {wd : Nat} {rows : List Row} : ∀ (k : Nat) (ps : List (List Int)), (fixF wd rows k ps).Sublist ps
  | 0, ps => List.Sublist.refl _
  | k + 1, ps => by
    show (if (keepF wd rows ps).length < ps.length then fixF wd rows k (keepF wd rows ps) else keepF wd rows ps).Sublist ps
    split
    · exact (fixF_sub k _).trans keep_sub
    · exact keep_sub
def pairsR (ps : List (List Int)) : Res := if ps = [] then .dat .non else .new (ps.map tI)
def R_apart (C : Addr) (ds : List D) (r : Res) : Prop := ∃ (wd o : Nat) (rows : List Row), ds = [macD C wd o rows] ∧ RowsOk wd o rows ∧ r = pairsR (apartF wd rows)
abbrev C_apart (P : Program) (w : World) (K : PySem.W.Frag) (mg : Str → Option Value) (base : Heap) (C : Addr) : Prop := CE P w K mg base 5 "apart" s_apart p_apart (R_apart C)
theorem good_ps (ps : List (List Int)) : good 60 (.lst (ps.map tI)) = true := good_lst fun d hd => by
  obtain ⟨p, _, rfl⟩ := List.mem_map.mp hd
  exact good_tI _ (by decide)
theorem g_apart (M : Mod K mg) (c1 : C_want_few_states P w K mg base C) (c2 : C_pairs_apart P w K mg base C) : C_apart P w K mg base C := by
  refine calP (k := 4) M.apart sc_apart 2 (fun ds r h => ?_) fun ds r h f cdv A outer s H hr => ?_
  · obtain ⟨wd, o, rows, rfl, _⟩ := h
    rfl
  · obtain ⟨wd, o, rows, rfl, hR, rfl⟩ := h
    refine Ex.runs (ex_cons (ds_expr (de_cP c1 hr (da_cons (de_var 0 rfl) da_nil) ⟨wd, o, rows, rfl, hR.most, rfl⟩ (.dat _)))
      (ex_cons (ds_set (i := 1) (de_cP c2 hr (da_cons (de_var 0 rfl) da_nil) ⟨wd, o, rows, rfl, hR, rfl⟩ (.new (.ow 1 _ (by decide) rfl))) sc_apart.nd) ?_))
    unfold pairsR
    by_cases he : apartF wd rows = []
    · rw [if_pos he, he]
      exact ex_ret (de_ifT (dt_to (dt_eqNil hr.u64 (de_var 1 rfl) (.lst rfl) (good_ps [])) rfl) de_non) .dat
    · rw [if_neg he]
      refine ex_ret (de_ifF (dt_to (dt_eqNil hr.u64 (de_var 1 rfl) (.lst rfl) (good_ps _)) ?_) (de_var 1 rfl)) (.new (by decide) rfl)
      cases q : apartF wd rows with
      | nil => exact absurd q he
      | cons p ps => rfl
/-! ### is_apart -/
/-- a value is_apart may be handed -/
structure okW (v : D) : Prop where
  ok : okV v
  mem : ∀ ds, sqOf v ds → ∀ d ∈ ds, okV d
def dist (xs : List (List Int)) : Bool := decide xs.Nodup
/-- what is_apart says of a list of pairs -/
def isAp (wd : Nat) (rows : List Row) (ds : List D) : Bool := !ds.isEmpty && ds.all (isPr rows.length) && decide (ds.map tupI).Nodup && (ds.map tupI).all fun p => (allL wd).all fun l => decide (beh wd rows p l ∈ ds.map tupI)
def isApV (wd : Nat) (rows : List Row) : D → Bool
  | .lst ds => isAp wd rows ds
  | .tup ds => isAp wd rows ds
  | _ => false
def R_is_apart (C : Addr) (ds : List D) (r : Res) : Prop := ∃ (wd o : Nat) (rows : List Row) (v : D), ds = [macD C wd o rows, v] ∧ RowsOk wd o rows ∧ okW v ∧ r = .dat (.bl (isApV wd rows v))
abbrev C_is_apart (P : Program) (w : World) (K : PySem.W.Frag) (mg : Str → Option Value) (base : Heap) (C : Addr) : Prop := CE P w K mg base 6 "is_apart" s_is_apart p_is_apart (R_is_apart C)
theorem isPr_pair {n : Nat} {d : D} (h : isPr n d = true) : ∃ a b : Int, d = tI [a, b] ∧ 0 ≤ a ∧ a < b ∧ b < n := by
  cases d with
  | tup ds =>
    simp only [isPr, isLot, Bool.and_eq_true] at h
    obtain ⟨h1, ⟨_, h2⟩, h3⟩ := h
    match ds with
    | [] => cases h1
    | [_] => cases h1
    | [x, y] =>
      obtain ⟨a, rfl, h4, h5⟩ := isSt_int (List.all_eq_true.mp h2 x (by simp))
      obtain ⟨b, rfl, h6, h7⟩ := isSt_int (List.all_eq_true.mp h2 y (by simp))
      simp [ascD, zipD, lessD] at h3
      exact ⟨a, b, rfl, h4, h3, h7⟩
    | _ :: _ :: _ :: _ => simp at h1
  | _ => cases h
theorem pair_isPr {n : Nat} {a b : Int} (h1 : 0 ≤ a) (h2 : a < b) (h3 : b < n) : isPr n (tI [a, b]) = true := by
  have : 0 ≤ b := by omega
  have : a < n := by omega
  simp [isPr, isLot, isSt, ascD, zipD, lessD, *]
end K82
namespace K82
open PySem PySem.Spec PyProof.Rows L2 DL
variable {P : Program} {w : World} {K : PySem.W.Frag} {mg : Str → Option Value} {base : Heap} {C : Addr}
theorem all_pairs {n : Nat} {ds : List D} (h : ds.all (isPr n) = true) : ds = (ds.map tupI).map tI ∧ ∀ p ∈ ds.map tupI, isP n p := by
  have key : ∀ d ∈ ds, tI (tupI d) = d ∧ isP n (tupI d) := fun d hd => by
    obtain ⟨a, b, rfl, h1, h2, h3⟩ := isPr_pair (List.all_eq_true.mp h d hd)
    rw [tupI_tI]
    exact ⟨rfl, a, b, rfl, h1, h2, h3⟩
  constructor
  · rw [List.map_map]
    exact (List.map_id ds).symm.trans (List.map_congr_left fun d hd => (key d hd).1.symm)
  · intro p hp
    obtain ⟨d, hd, rfl⟩ := List.mem_map.mp hp
    exact (key d hd).2
theorem g_is_apart (M : Mod K mg) (c0 : C_want_few_states P w K mg base C) (c1 : C_is_list P w K mg base) (c2 : C_is_pair_of P w K mg base C) (c3 : C_moves_of P w K mg base C) (c4 : C_pair_behind P w K mg base) : C_is_apart P w K mg base C := by
  refine calP (k := 5) M.is_apart sc_is_apart 0 (fun ds r h => ?_) fun ds r h f cdv A outer s H hr => ?_
  · obtain ⟨wd, o, rows, v, rfl, _⟩ := h
    rfl
  · obtain ⟨wd, o, rows, v, rfl, hR, hv, rfl⟩ := h
    refine Ex.runs (ex_cons (ds_expr (de_cP c0 hr (da_cons (de_var 0 rfl) da_nil) ⟨wd, o, rows, rfl, hR.most, rfl⟩ (.dat _))) ?_)
    by_cases hsq : ∃ ds, sqOf v ds
    · obtain ⟨ds, hs⟩ := hsq
      obtain ⟨hl, hok⟩ := hv.ok.mem ds hs
      have hokV := hv.mem ds hs
      have e0 : isApV wd rows v = isAp wd rows ds := by rcases hs with rfl | rfl <;> rfl
      have hlen : LenU [] (.dat v) ds.length := by
        rcases hs with rfl | rfl
        · exact .lst (.dat _)
        · exact .tup _
      rw [e0]
      have d0 : isSq v = true := sq_isSq hs
      by_cases hne : ds = []
      · subst hne
        exact ex_ifT (DW.dt (dw_orF (dt_notF (dt_val (de_to (de_cP c1 hr (da_cons (de_var 1 rfl) da_nil) ⟨v, rfl, hv.ok.ok, rfl⟩ (.dat _)) (by rw [d0])))) (dw_orT (dt_to (dt_eqI (de_len M.blt.len (de_var 1 rfl) hlen) de_int) (by simp))))) (ex_ret de_bl .dat)
      · have hemp : ds.isEmpty = false := by simp [hne]
        cases hall : ds.all (isPr rows.length) with
        | false =>
          have e1 : isAp wd rows ds = false := by simp [isAp, hall]
          rw [e1]
          refine ex_ifT (DW.dt (dw_orF (dt_notF (dt_val (de_to (de_cP c1 hr (da_cons (de_var 1 rfl) da_nil) ⟨v, rfl, hv.ok.ok, rfl⟩ (.dat _)) (by rw [d0])))) (dw_orF (dt_to (dt_eqI (de_len M.blt.len (de_var 1 rfl) hlen) de_int) (by simp [hne])) (dw_or1 (dt_notT (dt_val (de_to (de_allLc [("pair", 4)] (T := .one 4) (isPr rows.length) rfl M.blt.all sc_is_apart.nd (di_sq (de_var 1 rfl) hs) (blkOk_by (N := n_is_apart) (sc := defScope s_is_apart) (by decide +kernel)) rfl (fun _ _ _ _ _ => pg_name sc_is_apart.nd rfl (.inl rfl)) (fun d hd => ?_) (by omega)) (by rw [hall])))))))) (ex_ret de_bl .dat)
          exact ⟨_, _, rfl, fun _ _ _ _ _ => de_cP c2 hr (da_cons (de_var 0 rfl) (da_cons (de_var 4 rfl) da_nil)) ⟨wd, o, rows, d, rfl, hR.most, hokV d hd, rfl⟩ (.dat _), rfl⟩
        | true =>
          obtain ⟨hds, hxs⟩ := all_pairs hall
          let xs := ds.map tupI
          have hxl : xs.length = ds.length := List.length_map ..
          have e1 : isAp wd rows ds = (decide xs.Nodup && xs.all fun p => (allL wd).all fun l => decide (beh wd rows p l ∈ xs)) := by
            simp [isAp, hall, hemp, xs]
          rw [e1]
          refine ex_ifN (DW.dt (dw_orF (dt_notF (dt_val (de_to (de_cP c1 hr (da_cons (de_var 1 rfl) da_nil) ⟨v, rfl, hv.ok.ok, rfl⟩ (.dat _)) (by rw [d0])))) (dw_orF (dt_to (dt_eqI (de_len M.blt.len (de_var 1 rfl) hlen) de_int) (by simp [hne])) (dw_or1 (dt_notF (dt_val (de_to (de_allLc [("pair", 4)] (T := .one 4) (isPr rows.length) rfl M.blt.all sc_is_apart.nd (di_sq (de_var 1 rfl) hs) (blkOk_by (N := n_is_apart) (sc := defScope s_is_apart) (by decide +kernel)) rfl (fun _ _ _ _ _ => pg_name sc_is_apart.nd rfl (.inl rfl)) (fun d hd => ?_) (by omega)) (by rw [hall])))))))) ?_
          · exact ⟨_, _, rfl, fun _ _ _ _ _ => de_cP c2 hr (da_cons (de_var 0 rfl) (da_cons (de_var 4 rfl) da_nil)) ⟨wd, o, rows, d, rfl, hR.most, hokV d hd, rfl⟩ (.dat _), rfl⟩
          have hps : (psP xs).length = ds.length := by rw [psP, List.length_map, hxl]
          have e6 : (ds.map fun d => D.tup [d, .bl true]) = (psP xs).map DL.pairD := by
            have e7 : (ds.map fun d => D.tup [d, .bl true]) = ((ds.map tupI).map tI).map fun d => D.tup [d, .bl true] := congrArg (List.map fun d => D.tup [d, .bl true]) hds
            rw [e7]
            show ((ds.map tupI).map tI).map _ = (((ds.map tupI).map fun p => (p, D.bl true))).map DL.pairD
            rw [List.map_map, List.map_map, List.map_map, List.map_map]
            rfl
          refine ex_cons (ds_asgT (is := [2, 3]) (ds := [mvD wd rows, .lkd (kOf (merge [] (psP xs))) (vOf (merge [] (psP xs)))]) (de_tup (da_cons (de_cP c3 hr (da_cons (de_var 0 rfl) da_nil) ⟨wd, o, rows, rfl, hR, rfl⟩ (.dat _)) (by exact da_cons (de_dictL rfl hr.u8 M.blt.dict (de_lcD (es := (psP xs).map DL.pairD) [("pair", 4)] (fun d => .tup [d, .bl true]) (T := .one 4) rfl sc_is_apart.nd (di_sq (de_var 1 rfl) hs) (blkOk_by (N := n_is_apart) (sc := defScope s_is_apart) (by decide +kernel)) rfl (fun _ _ _ _ _ => pg_name sc_is_apart.nd rfl (.inl rfl)) (fun d hd => ⟨_, _, rfl, fun _ _ _ _ _ => de_tup (da_cons (de_var 4 rfl) (da_cons de_bl da_nil)), rfl⟩) e6 (by omega)) (.dat _) (by omega)) da_nil))) (tg_two rfl sc_is_apart.nd)) ?_
          have hlt : (merge [] (psP xs)).length < ds.length ↔ ¬ xs.Nodup := by
            have := merge_lt (m := psP xs)
            rw [psP_keys, hps] at this
            exact this
          by_cases hnd : xs.Nodup
          · have hm : merge [] (psP xs) = psP xs := merge_nil (by rw [psP_keys]; exact hnd)
            rw [hm]
            rw [decide_eq_true hnd, Bool.true_and]
            refine ex_ifN (dt_to (dt_ltI (de_lenD M.blt.len (de_var 3 rfl) (.lkd _)) (de_len M.blt.len (de_var 1 rfl) hlen)) (by rw [hps]; simp)) ?_
            let bs : List Bool := ds.flatMap fun d => (allL wd).map fun l => decide (beh wd rows (tupI d) l ∈ xs)
            have ebs : (xs.all fun p => (allL wd).all fun l => decide (beh wd rows p l ∈ xs)) = bs.all id := by
              simp only [bs, List.all_flatMap, List.all_map, xs]
              rfl
            rw [ebs]
            refine ex_ret (de_all rfl M.blt.all (de_lc2 (T := .one 4) (T1 := .one 5) (own := [("pair", 4), ("letter", 5)]) (vs1 := [5]) (m' := []) (es := bs.map .bl) rfl sc_is_apart.nd (di_sq (de_var 1 rfl) hs) (blkOk_by (N := n_is_apart) (sc := defScope s_is_apart) (by decide +kernel)) (by decide) rfl rfl (fun _ _ _ _ _ => pg_name sc_is_apart.nd rfl (.inl rfl)) (fun _ _ _ _ _ => pg_name sc_is_apart.nd rfl (.inl rfl)) ?_ (.dl _) hl) (.dat _)) .dat
            rw [List.map_flatMap]
            refine lc2_map fun d hd => ?_
            obtain ⟨a, b, rfl, h1, h2, h3⟩ := isPr_pair (List.all_eq_true.mp hall d hd)
            have hin : inM rows.length [a, b] := fun x hx => by
              simp at hx
              omega
            refine ⟨_, _, _, rfl, fun _ _ _ _ _ => di_mv (de_var 2 rfl), rfl, by rw [List.length_map]; have := allL_16 hR.w4; omega, ?_⟩
            have e5 : ((allL wd).map fun l => decide (beh wd rows (tupI (tI [a, b])) l ∈ xs)).map D.bl = ((allL wd).map tI).map fun d => .bl (decide (beh wd rows [a, b] (tupI d) ∈ xs)) := by
              rw [List.map_map, List.map_map]
              refine List.map_congr_left fun l _ => ?_
              show D.bl _ = D.bl _
              rw [tupI_tI, tupI_tI]
            rw [e5]
            refine lc_map fun d hd => ?_
            obtain ⟨l, hl2, rfl⟩ := List.mem_map.mp hd
            let Sx : DSt := ⟨[some (.dat (macD C wd o rows)), some (.dat v), some (.dat (mvD wd rows)), some (.dat (.lkd (kOf (psP xs)) (vOf (psP xs)))), some (.dat (tI [a, b])), some (.dat (tI l))], []⟩
            refine ⟨Sx, Sx, rfl, fun _ _ _ _ _ => ?_, rfl⟩
            refine de_to (u := .dat (.bl (val (psP xs) (beh wd rows [a, b] l)).isSome)) ?_ (by rw [psP_in, tupI_tI])
            refine de_din (S1 := Sx) hr.u1 ?_ ?_ (.lkd _)
            · exact de_cP c4 hr (da_cons (de_var 2 rfl) (da_cons (de_var 4 rfl) (da_cons (de_var 5 rfl) da_nil))) ⟨wd, o, rows, a, b, l, rfl, hR, hl2, hin, rfl⟩ (.dat _)
            · exact de_var 3 rfl
          · rw [decide_eq_false hnd, Bool.false_and]
            refine ex_ifT (dt_to (dt_ltI (de_lenD M.blt.len (de_var 3 rfl) (.lkd _)) (de_len M.blt.len (de_var 1 rfl) hlen)) ?_) (ex_ret de_bl .dat)
            have := hlt.mpr hnd
            simp
            omega
    · have d0 : isSq v = false := by
        cases v with
        | lst ds => exact absurd ⟨ds, .inl rfl⟩ hsq
        | tup ds => exact absurd ⟨ds, .inr rfl⟩ hsq
        | rol ds => exact absurd rfl (hv.ok.nr ds)
        | _ => rfl
      have e0 : isApV wd rows v = false := by
        cases v with
        | lst ds => exact absurd ⟨ds, .inl rfl⟩ hsq
        | tup ds => exact absurd ⟨ds, .inr rfl⟩ hsq
        | _ => rfl
      rw [e0]
      exact ex_ifT (DW.dt (dw_orT (dt_notT (dt_val (de_to (de_cP c1 hr (da_cons (de_var 1 rfl) da_nil) ⟨v, rfl, hv.ok.ok, rfl⟩ (.dat _)) (by rw [d0])))))) (ex_ret de_bl .dat)
end K82
namespace K82
open PySem PySem.Spec PyProof.Rows L2 DL
variable {P : Program} {w : World} {K : PySem.W.Frag} {mg : Str → Option Value} {base : Heap} {C : Addr}
/-! ### the pot that is drawn from -/
structure Pot where
  a : Nat
  b : Nat
def Pot.ds (p : Pot) : List D := [.int p.a, .int p.b]
def Pot.ok (p : Pot) : Prop := p.b ≤ 2147483647
def draw (n : Nat) (p : Pot) : Nat × Pot :=
  if 0 < p.a then (p.a % n, ⟨p.a / n, p.b⟩)
  else ((((p.b * 48271 + 15053) % 2147483549 * ((p.b * 48271 + 15053) % 2147483549)) % 2147483629 / 43) % n, ⟨p.a, (p.b * 48271 + 15053) % 2147483549⟩)
theorem draw_lt {n : Nat} (h : 0 < n) (p : Pot) : (draw n p).1 < n := by
  unfold draw
  split
  · exact Nat.mod_lt _ h
  · exact Nat.mod_lt _ h
theorem draw_ok {n : Nat} {p : Pot} (h : p.ok) : (draw n p).2.ok := by
  unfold draw
  split
  · exact h
  · show _ % 2147483549 ≤ 2147483647
    omega
abbrev CO (P : Program) (w : World) (K : PySem.W.Frag) (mg : Str → Option Value) (base : Heap) (k : Nat) (x : Str) (st : Stmt) (ps : List Str) (R0 : List D → List D → Res → List D → Prop) : Prop := CalE P w K mg base k x st ps (SpO K R0)
def R_law_draw (c ds : List D) (r : Res) (c' : List D) : Prop := ∃ (n : Nat) (p : Pot), c = p.ds ∧ ds = [.int n] ∧ 0 < n ∧ n < 1000 ∧ p.ok ∧ r = .dat (.int (draw n p).1) ∧ c' = (draw n p).2.ds
abbrev C_law_draw (P : Program) (w : World) (K : PySem.W.Frag) (mg : Str → Option Value) (base : Heap) : Prop := CO P w K mg base 1 "_law_draw" s_law_draw p_law_draw R_law_draw
theorem g_law_draw (M : Mod K mg) : C_law_draw P w K mg base := by
  refine calO (k := 0) M.law_draw sc_law_draw 0 (fun c ds r c' h => ?_) fun c ds r c' h f cdv A outer s H hr => ?_
  · obtain ⟨n, p, rfl, rfl, _⟩ := h
    rfl
  · obtain ⟨n, p, rfl, rfl, h0, h1, hp, rfl, rfl⟩ := h
    refine Ex.runsO ?_
    by_cases ha : 0 < p.a
    · have e : draw n p = (p.a % n, ⟨p.a / n, p.b⟩) := if_pos ha
      rw [e]
      refine ex_ifT (dt_to (dt_gtI (de_ixL (de_var 0 rfl) de_int (.own rfl) rfl) de_int) (by simp; omega)) (ex_cons (ds_putName (n := 0) (m := 0) (i := 2) rfl (de_divmod M.blt.divmod (de_ixL (de_var 0 rfl) de_int (.own rfl) rfl) (de_var 1 rfl) ⟨by omega, by omega⟩) (de_var 0 rfl) de_int rfl rfl sc_law_draw.nd) (ex_ret (de_var 2 rfl) ?_))
      have e1 : ((p.a % n : Nat) : Int) = (p.a : Int) % (n : Int) := Int.natCast_emod ..
      have e2 : ((p.a / n : Nat) : Int) = (p.a : Int) / (n : Int) := Int.natCast_ediv ..
      show EndR _ (.dat (.int ((p.a % n : Nat) : Int))) ∧ _ = some (some (MO.lst [.int ((p.a / n : Nat) : Int), .int (p.b : Nat)]))
      rw [e1, e2]
      exact ⟨.dat, rfl⟩
    · have ha0 : p.a = 0 := by omega
      let b' : Nat := (p.b * 48271 + 15053) % 2147483549
      have hb' : b' < 2147483549 := Nat.mod_lt _ (by decide)
      have hpb : p.b ≤ 2147483647 := hp
      have e : draw n p = ((b' * b' % 2147483629 / 43) % n, ⟨p.a, b'⟩) := if_neg ha
      rw [e]
      refine ex_ifN (dt_to (dt_gtI (de_ixL (de_var 0 rfl) de_int (.own rfl) rfl) de_int) (by simp; omega)) ?_
      have eb : ((p.b : Int) * 48271 + 15053) % 2147483549 = (b' : Nat) := by
        show _ = (((p.b * 48271 + 15053) % 2147483549 : Nat) : Int)
        omega
      refine ex_cons (ds_put (n := 0) (m := 1) (de_to (u' := .dat (.int (b' : Nat))) (de_mod (de_intI M.blt.int (de_add (de_mul (de_ixL (de_var 0 rfl) de_int (.own rfl) rfl) de_int (.inr (by decide))) de_int)) de_int (by decide)) (by rw [← eb])) (de_var 0 rfl) de_int rfl rfl) (ex_ret (de_mod (de_intI M.blt.int (de_fdiv (de_mod (de_intI M.blt.int (de_mul (de_ixL (de_var 0 rfl) de_int (.own rfl) rfl) (de_ixL (de_var 0 rfl) de_int (.own rfl) rfl) (.inl (by omega)))) de_int (by decide)) de_int ⟨by omega, by omega⟩)) (de_var 1 rfl) (by omega)) ?_)
      have e1 : ((b' * b' % 2147483629 / 43 % n : Nat) : Int) = ((b' : Int) * (b' : Int)) % 2147483629 / 43 % (n : Int) := by
        rw [Int.natCast_emod, Int.natCast_ediv, Int.natCast_emod, Int.natCast_mul]
        rfl
      show EndR _ (.dat (.int ((b' * b' % 2147483629 / 43 % n : Nat) : Int))) ∧ _ = some (some (MO.lst [.int (p.a : Nat), .int (b' : Nat)]))
      rw [e1]
      exact ⟨.dat, rfl⟩
end K82
namespace K82
open PySem PySem.Spec PyProof.Rows L2 DL
variable {P : Program} {w : World} {K : PySem.W.Frag} {mg : Str → Option Value} {base : Heap} {C : Addr}
def pickD (es : List D) (p : Pot) : D × Pot := (es.getD (draw es.length p).1 .non, (draw es.length p).2)
def R_law_pick (c ds : List D) (r : Res) (c' : List D) : Prop := ∃ (es : List D) (p : Pot), c = p.ds ∧ ds = [.lst es] ∧ 0 < es.length ∧ es.length < 1000 ∧ p.ok ∧ r = .dat (pickD es p).1 ∧ c' = (pickD es p).2.ds
abbrev C_law_pick (P : Program) (w : World) (K : PySem.W.Frag) (mg : Str → Option Value) (base : Heap) : Prop := CO P w K mg base 2 "_law_pick" s_law_pick p_law_pick R_law_pick
theorem g_law_pick (M : Mod K mg) (c1 : C_law_draw P w K mg base) : C_law_pick P w K mg base := by
  refine calO (k := 1) M.law_pick sc_law_pick 0 (fun c ds r c' h => ?_) fun c ds r c' h f cdv A outer s H hr => ?_
  · obtain ⟨n, p, rfl, rfl, _⟩ := h
    rfl
  · obtain ⟨es, p, rfl, rfl, h0, h1, hp, rfl, rfl⟩ := h
    have hlt := draw_lt h0 p
    refine Ex.runsO (ex_ret (de_ixL (de_var 1 rfl) (de_cO c1 hr (da_cons (de_var 0 rfl) (da_cons (de_len M.blt.len (de_var 1 rfl) (.lst (.dat _))) da_nil)) rfl ⟨es.length, p, rfl, rfl, h0, h1, hp, rfl, rfl⟩ (.dat _)) (.dat _) (d := (pickD es p).1) ?_) ⟨.dat, rfl⟩)
    refine atI_nn (by omega) ?_
    rw [Int.toNat_natCast, List.getElem?_eq_getElem hlt]
    show _ = some (List.getD es _ .non)
    rw [getD_lt hlt]
/-! ### _law_mixed: the members in an order that is drawn -/
def mixF : Nat → List D → List D → Pot → List D × Pot
  | 0, _, fo, p => (fo, p)
  | k + 1, re, fo, p => match re with
    | [] => (fo, p)
    | _ :: _ => mixF k (re.eraseIdx (draw re.length p).1) (fo ++ [re.getD (draw re.length p).1 .non]) (draw re.length p).2
def mixD (es : List D) (p : Pot) : List D × Pot := mixF es.length es [] p
def R_law_mixed (c ds : List D) (r : Res) (c' : List D) : Prop := ∃ (es : List D) (p : Pot), c = p.ds ∧ ds = [.lst es] ∧ good 60 (.lst es) = true ∧ es.length < 1000 ∧ p.ok ∧ r = .dat (.lst (mixD es p).1) ∧ c' = (mixD es p).2.ds
abbrev C_law_mixed (P : Program) (w : World) (K : PySem.W.Frag) (mg : Str → Option Value) (base : Heap) : Prop := CO P w K mg base 2 "_law_mixed" s_law_mixed p_law_mixed R_law_mixed
theorem g_law_mixed (M : Mod K mg) (c1 : C_law_draw P w K mg base) : C_law_mixed P w K mg base := by
  refine calO (k := 1) M.law_mixed sc_law_mixed 2 (fun c ds r c' h => ?_) fun c ds r c' h f cdv A outer s H hr => ?_
  · obtain ⟨n, p, rfl, rfl, _⟩ := h
    rfl
  · obtain ⟨es, p, rfl, rfl, hg, h1, hp, rfl, rfl⟩ := h
    refine Ex.runsO (ex_cons (ds_par (i := 2) (j := 3) rfl sc_law_mixed.nd (da_cons (de_listL M.blt.list (de_var 1 rfl) (.dat _) (.ow 1 _ (by decide) rfl)) (by exact da_cons (de_lst da_nil (.ow 2 _ (by decide) rfl)) da_nil))) ?_)
    refine ex_while (fun n S => ∃ re fo q, S = ⟨[some (.own 0), some (.dat (.lst es)), some (.own 1), some (.own 2)], [some (.lst (Pot.ds q)), some (.lst re), some (.lst fo)]⟩ ∧ n = re.length ∧ (∀ d ∈ re, d ∈ es) ∧ re.length ≤ es.length ∧ fo.length + re.length = es.length ∧ q.ok ∧ mixF re.length re fo q = mixD es p) (n := es.length) ⟨es, [], p, rfl, rfl, fun _ h => h, Nat.le_refl _, by simp, hp, rfl⟩ ?_
    rintro n S ⟨re, fo, q, rfl, rfl, hre, hle, hlen, hq, hmix⟩
    have gre : good 60 (.lst re) = true := good_lst fun d hd => by
      have hg2 : good 60 (.lst es) = true := hg
      simp only [good] at hg2
      exact goods_all.mp hg2 d (hre d hd)
    cases re with
    | nil =>
      left
      refine ⟨_, dt_to (dt_neNil hr.u64 (de_var 2 rfl) (.lst rfl) gre) rfl, ?_⟩
      have e : mixD es p = (fo, q) := hmix.symm
      rw [e]
      exact ex_ret (de_var 3 rfl) ⟨.lst (by decide) rfl, rfl⟩
    | cons d re =>
      right
      have hlt := draw_lt (n := (d :: re).length) (by simp) q
      have hk : (d :: re)[(draw (d :: re).length q).1]? = some ((d :: re).getD (draw (d :: re).length q).1 .non) := by
        rw [List.getElem?_eq_getElem hlt, getD_lt hlt]
      refine ⟨_, dt_to (dt_neNil hr.u64 (de_var 2 rfl) (.lst rfl) gre) rfl, ?_⟩
      refine ex_cons (ds_expr (de_append (n := 2) (de_var 3 rfl) (de_popAt (n := 1) (d := (d :: re).getD (draw (d :: re).length q).1 .non) (de_var 2 rfl) (de_cO c1 hr (da_cons (de_var 0 rfl) (da_cons (de_len M.blt.len (de_var 2 rfl) (.lst (.own rfl))) da_nil)) rfl ⟨(d :: re).length, q, rfl, rfl, by simp, by omega, hq, rfl, rfl⟩ (.dat _)) rfl rfl (by omega) (by rw [Int.toNat_natCast]; exact hk) (by omega)) rfl rfl (by omega))) (ex_nil ?_)
      have el : ((d :: re).eraseIdx (draw (d :: re).length q).1).length = re.length := by rw [List.length_eraseIdx_of_lt hlt]; simp
      refine ⟨re.length, by simp, (d :: re).eraseIdx (draw (d :: re).length q).1, fo ++ [(d :: re).getD (draw (d :: re).length q).1 .non], (draw (d :: re).length q).2, ?_, el.symm, fun x hx => hre x (List.mem_of_mem_eraseIdx hx), ?_, ?_, draw_ok hq, ?_⟩
      · rw [Int.toNat_natCast]
        rfl
      · rw [el]
        simp at hle
        omega
      · rw [el, List.length_append]
        simp at hlen ⊢
        omega
      · rw [el, ← hmix]
        rfl
end K82
namespace K82
open PySem PySem.Spec PyProof.Rows L2 DL
variable {P : Program} {w : World} {K : PySem.W.Frag} {mg : Str → Option Value} {base : Heap} {C : Addr}
/-! ### _law_letters -/
def R_law_letters (ds : List D) (r : Res) : Prop := ∃ wd : Nat, ds = [.int wd] ∧ wd ≤ 4 ∧ r = .dat (.lst ((allL wd).map tI))
abbrev C_law_letters (P : Program) (w : World) (K : PySem.W.Frag) (mg : Str → Option Value) (base : Heap) : Prop := CE P w K mg base 1 "_law_letters" s_law_letters p_law_letters R_law_letters
theorem step_flat (L : List (List Int)) : (stepL L).map tI = (L.map fun l => [tI (l ++ [0]), tI (l ++ [1])]).flatten := by
  unfold stepL
  rw [List.map_flatMap, List.flatMap_def]
  rfl
theorem g_law_letters (M : Mod K mg) : C_law_letters P w K mg base := by
  refine calP (k := 0) M.law_letters sc_law_letters 0 (fun ds r h => ?_) fun ds r h f cdv A outer s H hr => ?_
  · obtain ⟨v, rfl, _⟩ := h
    rfl
  · obtain ⟨wd, rfl, hw, rfl⟩ := h
    refine Ex.runs (ex_cons (ds_set (de_lst (da_cons (de_tup da_nil) da_nil) (.dl _)) sc_law_letters.nd (i := 1)) ?_)
    refine ex_for (T := .one 2) (fun ds S => ∃ L t, S = ⟨[some (.dat (.int wd)), some (.dat (.lst (L.map tI))), t, none], []⟩ ∧ 0 < L.length ∧ L.length * 2 ^ ds.length ≤ 16 ∧ (∀ l ∈ L, l.length + ds.length ≤ 4) ∧ iterL ds.length L = allL wd) rfl (di_rng M.blt.range (de_var 0 rfl) (by omega)) (pg_name sc_law_letters.nd rfl (.inl rfl)) ?_ ?_ ?_
    · refine ⟨[[]], none, rfl, by decide, ?_, ?_, ?_⟩
      · have : (rngN wd).length = wd := by simp [rngN]
        rw [this]
        have : wd = 0 ∨ wd = 1 ∨ wd = 2 ∨ wd = 3 ∨ wd = 4 := by omega
        rcases this with rfl | rfl | rfl | rfl | rfl <;> decide
      · intro l hl
        rw [List.mem_singleton.mp hl]
        simp [rngN]
        exact hw
      · simp [rngN, allL]
    · rintro d rest S ⟨L, t, rfl, h0, h1, h2, h3⟩
      have p1 : 1 ≤ 2 ^ rest.length := Nat.one_le_two_pow
      have h1' : L.length * (2 ^ rest.length * 2) ≤ 16 := by
        rw [← Nat.pow_succ]
        exact h1
      have h4 : L.length ≤ 8 := by
        have : L.length * 2 ≤ L.length * (2 ^ rest.length * 2) := Nat.mul_le_mul_left _ (by omega)
        omega
      refine ⟨_, rfl, ex_cons (ds_set (i := 1) (de_sumL (ds := []) (Ls := L.map fun l => [tI (l ++ [0]), tI (l ++ [1])]) rfl M.blt.sum (de_lcD (es := (L.map fun l => [tI (l ++ [0]), tI (l ++ [1])]).map .lst) [("_law_letter", 3)] (fun d => .lst [tI (tupI d ++ [0]), tI (tupI d ++ [1])]) (T := .one 3) rfl sc_law_letters.nd (di_lst (de_var 1 rfl)) (blkOk_by (N := n_law_letters) (sc := defScope s_law_letters) (by decide +kernel)) rfl (fun _ _ _ _ _ => pg_name sc_law_letters.nd rfl (.inl rfl)) (fun e hd => ?_) ?_ (by rw [List.length_map]; omega)) (de_lst da_nil (.dl _)) (.dat _) (.dat _) (by simp) (by rw [List.length_map]; exact h0) ?_ (.dl _)) sc_law_letters.nd) (ex_nil ⟨stepL L, some (.dat d), ?_, ?_, ?_, ?_, h3⟩)⟩
      · obtain ⟨l, hl, rfl⟩ := List.mem_map.mp hd
        have hz : l.length ≤ 4 := by have := h2 l hl; omega
        let Sx : DSt := ⟨[some (.dat (.int wd)), some (.dat (.lst (L.map tI))), some (.dat d), some (.dat (tI l))], []⟩
        refine ⟨Sx, Sx, rfl, fun _ _ _ _ _ => ?_, rfl⟩
        rw [tupI_tI, ← tI_app, ← tI_app]
        exact de_lst (da_cons (de_catT (de_var 3 rfl) (de_tup (da_cons de_int da_nil)) (by simp; omega)) (da_cons (de_catT (de_var 3 rfl) (de_tup (da_cons de_int da_nil)) (by simp; omega)) da_nil)) (.dl _)
      · rw [List.map_map, List.map_map]
        refine List.map_congr_left fun l _ => ?_
        show D.lst _ = D.lst _
        rw [tupI_tI]
      · rw [List.map_map]
        have : (L.map (List.length ∘ fun l => [tI (l ++ [0]), tI (l ++ [1])])) = L.map fun _ => 2 := rfl
        rw [this, List.map_const', List.sum_replicate_nat]
        omega
      · rw [List.nil_append, ← step_flat]
        rfl
      · rw [stepL_len]
        omega
      · rw [stepL_len]
        have : 2 * L.length * 2 ^ rest.length = L.length * (2 ^ rest.length * 2) := by rw [Nat.mul_comm 2 L.length, Nat.mul_assoc, Nat.mul_comm 2]
        omega
      · intro l hl
        obtain ⟨l0, h5, h6⟩ := List.mem_flatMap.mp hl
        have := h2 l0 h5
        rw [List.length_cons] at this
        simp at h6
        rcases h6 with rfl | rfl <;> simp <;> omega
    · rintro S ⟨L, t, rfl, h0, h1, h2, h3⟩
      rw [← h3]
      exact ex_ret (de_var 1 rfl) .dat
end K82
namespace K82
open PySem PySem.Spec PyProof.Rows L2 DL
variable {P : Program} {w : World} {K : PySem.W.Frag} {mg : Str → Option Value} {base : Heap} {C : Addr}
/-! ### many draws -/
def draws (n : Nat) : Nat → Pot → List Nat × Pot
  | 0, p => ([], p)
  | k + 1, p => ((draw n p).1 :: (draws n k (draw n p).2).1, (draws n k (draw n p).2).2)
theorem draws_len {n : Nat} : ∀ (k : Nat) (p : Pot), (draws n k p).1.length = k
  | 0, _ => rfl
  | k + 1, p => by
    show (_ :: (draws n k (draw n p).2).1).length = _
    rw [List.length_cons, draws_len]
theorem draws_lt {n : Nat} (h : 0 < n) : ∀ (k : Nat) (p : Pot), ∀ x ∈ (draws n k p).1, x < n
  | 0, _, x, hx => by cases hx
  | k + 1, p, x, hx => by
    have hx : x ∈ (draw n p).1 :: (draws n k (draw n p).2).1 := hx
    rcases List.mem_cons.mp hx with rfl | hx
    · exact draw_lt h p
    · exact draws_lt h k _ x hx
theorem draws_ok {n : Nat} : ∀ (k : Nat) (p : Pot), p.ok → (draws n k p).2.ok
  | 0, _, h => h
  | k + 1, p, h => draws_ok k _ (draw_ok h)
/-- a comprehension each turn of which draws once -/
theorem lc_draws {X : Cx} {scope : Scope} {T : Tgt} {elt : Expr} {g : List (Option U)} {n : Nat} {f : Nat → D} {mr : List (Option MO)} : ∀ (ds : List D) (p : Pot), p.ok → (∀ (p : Pot), p.ok → ∀ d ∈ ds, ∃ S1 S3, asg T d ⟨g, some (.lst p.ds) :: mr⟩ = some S1 ∧ BE X scope elt S1 (.dat (f (draw n p).1)) S3 ∧ S3.m = some (.lst (draw n p).2.ds) :: mr) →
    LcR X scope T [] elt g ds (some (.lst p.ds) :: mr) ((draws n ds.length p).1.map f) (some (.lst (draws n ds.length p).2.ds) :: mr)
  | [], _, _, _ => .nil
  | d :: ds, p, hp, h => by
    obtain ⟨S1, S3, h1, h2, h3⟩ := h p hp d List.mem_cons_self
    refine .yes h1 bt_nil h2 ?_
    rw [h3]
    exact lc_draws ds _ (draw_ok hp) fun p hp d hd => h p hp d (List.mem_cons_of_mem _ hd)
/-! ### mixed numbers -/
def natD (i : Nat) : D := .int (i : Nat)
def mixN : Nat → List Nat → List Nat → Pot → List Nat × Pot
  | 0, _, fo, p => (fo, p)
  | k + 1, re, fo, p => match re with
    | [] => (fo, p)
    | _ :: _ => mixN k (re.eraseIdx (draw re.length p).1) (fo ++ [re.getD (draw re.length p).1 0]) (draw re.length p).2
theorem erase_map {α β : Type} (f : α → β) : ∀ (l : List α) (i : Nat), (l.map f).eraseIdx i = (l.eraseIdx i).map f
  | [], _ => rfl
  | _ :: _, 0 => rfl
  | x :: l, i + 1 => by
    show f x :: (l.map f).eraseIdx i = f x :: (l.eraseIdx i).map f
    rw [erase_map f l i]
theorem mixF_nat : ∀ (k : Nat) (re fo : List Nat) (p : Pot), mixF k (re.map natD) (fo.map natD) p = ((mixN k re fo p).1.map natD, (mixN k re fo p).2)
  | 0, _, _, _ => rfl
  | k + 1, [], _, _ => rfl
  | k + 1, x :: re, fo, p => by
    have hlt := draw_lt (n := (x :: re).length) (by simp) p
    have e1 : ((x :: re).map natD).length = (x :: re).length := List.length_map ..
    have e2 : ((x :: re).map natD).eraseIdx (draw (x :: re).length p).1 = ((x :: re).eraseIdx (draw (x :: re).length p).1).map natD := erase_map ..
    have e3 : ((x :: re).map natD).getD (draw (x :: re).length p).1 .non = natD ((x :: re).getD (draw (x :: re).length p).1 0) := by
      rw [getD_lt (by rw [e1]; exact hlt), getD_lt hlt, List.getElem_map]
    show mixF k (((x :: re).map natD).eraseIdx (draw ((x :: re).map natD).length p).1) (fo.map natD ++ [((x :: re).map natD).getD (draw ((x :: re).map natD).length p).1 .non]) (draw ((x :: re).map natD).length p).2 = _
    rw [e1, e2, e3]
    have := mixF_nat k ((x :: re).eraseIdx (draw (x :: re).length p).1) (fo ++ [(x :: re).getD (draw (x :: re).length p).1 0]) (draw (x :: re).length p).2
    rw [List.map_append] at this
    exact this
theorem mixN_mem : ∀ (k : Nat) (re fo : List Nat) (p : Pot), ∀ x ∈ (mixN k re fo p).1, x ∈ re ∨ x ∈ fo
  | 0, _, _, _, x, h => .inr h
  | k + 1, [], _, _, x, h => .inr h
  | k + 1, y :: re, fo, p, x, h => by
    have hlt := draw_lt (n := (y :: re).length) (by simp) p
    rcases mixN_mem k _ _ _ x h with q | q
    · exact .inl (List.mem_of_mem_eraseIdx q)
    · rcases List.mem_append.mp q with q | q
      · exact .inr q
      · rw [List.mem_singleton.mp q, getD_lt hlt]
        exact .inl (List.getElem_mem _)
theorem mixN_len : ∀ (k : Nat) (re fo : List Nat) (p : Pot), re.length ≤ k → (mixN k re fo p).1.length = re.length + fo.length
  | 0, re, fo, _, h => by
    have : re = [] := List.eq_nil_of_length_eq_zero (by omega)
    subst this
    simp [mixN]
  | k + 1, [], fo, _, h => by simp [mixN]
  | k + 1, y :: re, fo, p, h => by
    have hlt := draw_lt (n := (y :: re).length) (by simp) p
    have el : ((y :: re).eraseIdx (draw (y :: re).length p).1).length = re.length := by rw [List.length_eraseIdx_of_lt hlt]; simp
    have := mixN_len k ((y :: re).eraseIdx (draw (y :: re).length p).1) (fo ++ [(y :: re).getD (draw (y :: re).length p).1 0]) (draw (y :: re).length p).2 (by rw [el]; simp at h; omega)
    rw [el, List.length_append] at this
    show (mixN k _ _ _).1.length = _
    rw [this]
    simp
    omega
theorem mixN_ok : ∀ (k : Nat) (re fo : List Nat) (p : Pot), p.ok → (mixN k re fo p).2.ok
  | 0, _, _, _, h => h
  | k + 1, [], _, _, h => h
  | k + 1, _ :: _, _, _, h => mixN_ok k _ _ _ (draw_ok h)
end K82
namespace K82
open PySem PySem.Spec PyProof.Rows L2 DL
variable {P : Program} {w : World} {K : PySem.W.Frag} {mg : Str → Option Value} {base : Heap} {C : Addr}
/-! ### _law_rows -/
def natsD (l : List Nat) : D := .lst (l.map natD)
def colF (way many i : Nat) (p : Pot) : List Nat × Pot := if way = 0 ∨ (way = 1 ∧ 0 < i) then mixN many (List.range many) [] (draws many many p).2 else draws many many p
def colsF (way many : Nat) : Nat → Nat → Pot → List (List Nat) × Pot
  | 0, _, p => ([], p)
  | k + 1, i, p => ((colF way many i p).1 :: (colsF way many k (i + 1) (colF way many i p).2).1, (colsF way many k (i + 1) (colF way many i p).2).2)
def bitsF (l : List Nat) : List Int := l.map fun x => if x = 0 then 1 else 0
def rowF (outs s : Nat) : List (List Nat) → Pot → Row × Pot
  | [], p => ([], p)
  | c :: cs, p => ((c.getD s 0, bitsF (draws 3 outs p).1) :: (rowF outs s cs (draws 3 outs p).2).1, (rowF outs s cs (draws 3 outs p).2).2)
def rowsFrom (outs : Nat) (cs : List (List Nat)) : Nat → Nat → Pot → List Row × Pot
  | 0, _, p => ([], p)
  | k + 1, s, p => ((rowF outs s cs p).1 :: (rowsFrom outs cs k (s + 1) (rowF outs s cs p).2).1, (rowsFrom outs cs k (s + 1) (rowF outs s cs p).2).2)
def colsP (many wd : Nat) (p : Pot) : List (List Nat) × Pot := colsF (draw 4 p).1 many (allL wd).length 0 (draw 4 p).2
def rowsF (many wd outs : Nat) (p : Pot) : List Row × Pot := rowsFrom outs (colsP many wd p).1 many 0 (colsP many wd p).2
theorem colF_ok {way many i : Nat} {p : Pot} (h : p.ok) : (colF way many i p).2.ok := by
  unfold colF
  split
  · exact mixN_ok _ _ _ _ (draws_ok _ _ h)
  · exact draws_ok _ _ h
theorem colF_len {way many i : Nat} {p : Pot} : (colF way many i p).1.length = many := by
  unfold colF
  split
  · rw [mixN_len _ _ _ _ (by simp)]
    simp
  · exact draws_len _ _
theorem colF_lt {way many i : Nat} {p : Pot} (h0 : 0 < many) : ∀ x ∈ (colF way many i p).1, x < many := by
  unfold colF
  split
  · intro x hx
    rcases mixN_mem _ _ _ _ x hx with q | q
    · exact List.mem_range.mp q
    · cases q
  · exact draws_lt h0 _ _
theorem colsF_ok {way many : Nat} : ∀ (k i : Nat) (p : Pot), p.ok → (colsF way many k i p).2.ok
  | 0, _, _, h => h
  | k + 1, i, p, h => colsF_ok k _ _ (colF_ok h)
theorem colsF_len {way many : Nat} : ∀ (k i : Nat) (p : Pot), (colsF way many k i p).1.length = k
  | 0, _, _ => rfl
  | k + 1, i, p => by
    show (_ :: (colsF way many k (i + 1) _).1).length = _
    rw [List.length_cons, colsF_len k]
theorem colsF_mem {way many : Nat} (h0 : 0 < many) : ∀ (k i : Nat) (p : Pot), ∀ c ∈ (colsF way many k i p).1, c.length = many ∧ ∀ x ∈ c, x < many
  | 0, _, _, c, hc => by cases hc
  | k + 1, i, p, c, hc => by
    have hc : c ∈ (colF way many i p).1 :: (colsF way many k (i + 1) (colF way many i p).2).1 := hc
    rcases List.mem_cons.mp hc with rfl | hc
    · exact ⟨colF_len, colF_lt h0⟩
    · exact colsF_mem h0 k _ _ c hc
theorem bitsF_ok (l : List Nat) : bits (bitsF l) := fun i hi => by
  obtain ⟨x, _, rfl⟩ := List.mem_map.mp hi
  by_cases h : x = 0
  · rw [if_pos h]
    exact .inr rfl
  · rw [if_neg h]
    exact .inl rfl
theorem bitsF_len (l : List Nat) : (bitsF l).length = l.length := List.length_map ..
theorem rowF_ok {outs s : Nat} : ∀ (cs : List (List Nat)) (p : Pot), p.ok → (rowF outs s cs p).2.ok
  | [], _, h => h
  | _ :: cs, p, h => rowF_ok cs _ (draws_ok _ _ h)
theorem rowF_row {outs s many : Nat} (hs : s < many) : ∀ (cs : List (List Nat)) (p : Pot), (∀ c ∈ cs, c.length = many ∧ ∀ x ∈ c, x < many) → RowOk many cs.length outs (rowF outs s cs p).1
  | [], _, _ => ⟨rfl, fun _ h => nomatch h⟩
  | c :: cs, p, h => by
    have ih := rowF_row (outs := outs) hs cs (draws 3 outs p).2 fun c hc => h c (List.mem_cons_of_mem _ hc)
    obtain ⟨h1, h2⟩ := h c List.mem_cons_self
    refine ⟨?_, fun g hg => ?_⟩
    · show (_ :: (rowF outs s cs _).1).length = _
      rw [List.length_cons, ih.len, List.length_cons]
    · have hg : g ∈ (c.getD s 0, bitsF (draws 3 outs p).1) :: (rowF outs s cs (draws 3 outs p).2).1 := hg
      rcases List.mem_cons.mp hg with rfl | hg
      · refine ⟨?_, bitsF_ok _, ?_⟩
        · show c.getD s 0 < many
          rw [getD_lt (by rw [h1]; exact hs)]
          exact h2 _ (List.getElem_mem _)
        · show (bitsF _).length = outs
          rw [bitsF_len, draws_len]
      · exact ih.goal g hg
theorem rowsFrom_ok {outs : Nat} {cs : List (List Nat)} : ∀ (k s : Nat) (p : Pot), p.ok → (rowsFrom outs cs k s p).2.ok
  | 0, _, _, h => h
  | k + 1, s, p, h => rowsFrom_ok k _ _ (rowF_ok _ _ h)
theorem rowsFrom_len {outs : Nat} {cs : List (List Nat)} : ∀ (k s : Nat) (p : Pot), (rowsFrom outs cs k s p).1.length = k
  | 0, _, _ => rfl
  | k + 1, s, p => by
    show (_ :: (rowsFrom outs cs k (s + 1) _).1).length = _
    rw [List.length_cons, rowsFrom_len k]
theorem rowsFrom_row {outs many : Nat} {cs : List (List Nat)} (hc : ∀ c ∈ cs, c.length = many ∧ ∀ x ∈ c, x < many) : ∀ (k s : Nat) (p : Pot), s + k ≤ many → ∀ r ∈ (rowsFrom outs cs k s p).1, RowOk many cs.length outs r
  | 0, _, _, _, r, h => by cases h
  | k + 1, s, p, hk, r, h => by
    have h : r ∈ (rowF outs s cs p).1 :: (rowsFrom outs cs k (s + 1) (rowF outs s cs p).2).1 := h
    rcases List.mem_cons.mp h with rfl | h
    · exact rowF_row (by omega) cs p hc
    · exact rowsFrom_row hc k (s + 1) _ (by omega) r h
theorem rowsF_ok {many wd outs : Nat} {p : Pot} (h0 : 0 < many) (h1 : many ≤ 16) (h2 : wd ≤ 4) (h3 : outs ≤ 4) : RowsOk wd outs (rowsF many wd outs p).1 := by
  have e : (rowsF many wd outs p).1.length = many := rowsFrom_len _ _ _
  refine ⟨h2, h3, by omega, by omega, fun r hr => ?_⟩
  rw [e]
  have := rowsFrom_row (outs := outs) (cs := (colsP many wd p).1) (colsF_mem h0 _ _ _) many 0 _ (by omega) r hr
  rw [colsP, colsF_len] at this
  exact this
theorem rowsF_pot {many wd outs : Nat} {p : Pot} (h : p.ok) : (rowsF many wd outs p).2.ok := rowsFrom_ok _ _ _ (colsF_ok _ _ _ (draw_ok h))
theorem rowsF_len {many wd outs : Nat} {p : Pot} : (rowsF many wd outs p).1.length = many := rowsFrom_len _ _ _
/-! the parts taken from the front, one at a time -/
theorem colsF_snoc {way many : Nat} : ∀ (k i : Nat) (p : Pot), colsF way many (k + 1) i p = ((colsF way many k i p).1 ++ [(colF way many (i + k) (colsF way many k i p).2).1], (colF way many (i + k) (colsF way many k i p).2).2)
  | 0, i, p => rfl
  | k + 1, i, p => by
    show ((colF way many i p).1 :: (colsF way many (k + 1) (i + 1) (colF way many i p).2).1, (colsF way many (k + 1) (i + 1) (colF way many i p).2).2) = _
    rw [colsF_snoc k (i + 1)]
    have e : i + 1 + k = i + (k + 1) := by omega
    rw [e]
    rfl
theorem rowsFrom_snoc {outs : Nat} {cs : List (List Nat)} : ∀ (k s : Nat) (p : Pot), rowsFrom outs cs (k + 1) s p = ((rowsFrom outs cs k s p).1 ++ [(rowF outs (s + k) cs (rowsFrom outs cs k s p).2).1], (rowF outs (s + k) cs (rowsFrom outs cs k s p).2).2)
  | 0, s, p => rfl
  | k + 1, s, p => by
    show ((rowF outs s cs p).1 :: (rowsFrom outs cs (k + 1) (s + 1) (rowF outs s cs p).2).1, (rowsFrom outs cs (k + 1) (s + 1) (rowF outs s cs p).2).2) = _
    rw [rowsFrom_snoc k (s + 1)]
    have e : s + 1 + k = s + (k + 1) := by omega
    rw [e]
    rfl
theorem rowF_snoc {outs s : Nat} (c : List Nat) : ∀ (cs : List (List Nat)) (p : Pot), rowF outs s (cs ++ [c]) p = ((rowF outs s cs p).1 ++ [(c.getD s 0, bitsF (draws 3 outs (rowF outs s cs p).2).1)], (draws 3 outs (rowF outs s cs p).2).2)
  | [], p => rfl
  | c' :: cs, p => by
    show ((c'.getD s 0, bitsF (draws 3 outs p).1) :: (rowF outs s (cs ++ [c]) (draws 3 outs p).2).1, (rowF outs s (cs ++ [c]) (draws 3 outs p).2).2) = _
    rw [rowF_snoc c cs]
    rfl
end K82
namespace K82
open PySem PySem.Spec PyProof.Rows L2 DL
variable {P : Program} {w : World} {K : PySem.W.Frag} {mg : Str → Option Value} {base : Heap} {C : Addr}
def R_law_rows (c ds : List D) (r : Res) (c' : List D) : Prop := ∃ (many wd outs : Nat) (p : Pot), c = p.ds ∧ ds = [.int many, .int wd, .int outs] ∧ 0 < many ∧ many ≤ 16 ∧ wd ≤ 4 ∧ outs ≤ 4 ∧ p.ok ∧ r = .dat (rowsD (rowsF many wd outs p).1) ∧ c' = (rowsF many wd outs p).2.ds
abbrev C_law_rows (P : Program) (w : World) (K : PySem.W.Frag) (mg : Str → Option Value) (base : Heap) : Prop := CO P w K mg base 3 "_law_rows" s_law_rows p_law_rows R_law_rows
theorem rng_nat (n : Nat) : rngN n = (List.range n).map natD := rfl
theorem mixD_rng {n : Nat} {p : Pot} : mixD (rngN n) p = ((mixN n (List.range n) [] p).1.map natD, (mixN n (List.range n) [] p).2) := by
  unfold mixD
  rw [rngN_len, rng_nat]
  exact mixF_nat n (List.range n) [] p
theorem good_nats (l : List Nat) : good 60 (.lst (l.map natD)) = true := good_lst fun d hd => by
  obtain ⟨i, _, rfl⟩ := List.mem_map.mp hd
  exact good_int
theorem bit_eq (x : Nat) : (D.int (if decide ((x : Int) = 0) = true then 1 else 0)) = D.int (if x = 0 then 1 else 0) := by
  by_cases h : x = 0
  · rw [if_pos h, if_pos (by rw [h]; rfl)]
  · rw [if_neg h, if_neg (by simp [h])]
theorem tI_bits (l : List Nat) : tI (bitsF l) = .tup (l.map fun x => .int (if x = 0 then 1 else 0)) := by
  unfold bitsF tI
  rw [List.map_map]
  rfl
theorem atI_map {α : Type} {f : α → D} {l : List α} {i : Nat} {d : α} (h : i < l.length) : atI (l.map f) (i : Nat) = some (f (l.getD i d)) := by
  refine atI_nn (by omega) ?_
  rw [Int.toNat_natCast, List.getElem?_map, List.getElem?_eq_getElem h, getD_lt h]
  rfl
theorem lc_drawsN {X : Cx} {scope : Scope} {T : Tgt} {elt : Expr} {g : List (Option U)} {n k : Nat} {f : Nat → D} {mr : List (Option MO)} {ds : List D} (hk : ds.length = k) (p : Pot) (hp : p.ok) (h : ∀ (p : Pot), p.ok → ∀ d ∈ ds, ∃ S1 S3, asg T d ⟨g, some (.lst p.ds) :: mr⟩ = some S1 ∧ BE X scope elt S1 (.dat (f (draw n p).1)) S3 ∧ S3.m = some (.lst (draw n p).2.ds) :: mr) :
    LcR X scope T [] elt g ds (some (.lst p.ds) :: mr) ((draws n k p).1.map f) (some (.lst (draws n k p).2.ds) :: mr) := by
  subst hk
  exact lc_draws ds p hp h
theorem g_law_rows (M : Mod K mg) (c1 : C_law_draw P w K mg base) (c2 : C_law_mixed P w K mg base) (c3 : C_law_letters P w K mg base) : C_law_rows P w K mg base := by
  refine calO (k := 2) M.law_rows sc_law_rows 3 (fun c ds r c' h => ?_) fun c ds r c' h f cdv A outer s H hr => ?_
  · obtain ⟨many, wd, outs, p, rfl, rfl, _⟩ := h
    rfl
  · obtain ⟨many, wd, outs, p, rfl, rfl, h0, h1, h2, h3, hp, rfl, rfl⟩ := h
    have hL := allL_16 h2
    refine Ex.runsO (ex_cons (ds_par3 (i := 4) (j := 5) (l := 6) rfl sc_law_rows.nd (da_cons (de_cO c1 hr (da_cons (de_var 0 rfl) (da_cons de_int da_nil)) rfl ⟨4, p, rfl, rfl, by decide, by decide, hp, rfl, rfl⟩ (.dat _)) (da_cons (de_lst da_nil (.ow 1 _ (by decide) rfl)) (da_cons (de_lst da_nil (.ow 2 _ (by decide) rfl)) da_nil)))) ?_)
    have hp0 : (draw 4 p).2.ok := draw_ok hp
    generalize hway : (draw 4 p).1 = way
    generalize hpot : (draw 4 p).2 = p0 at hp0 ⊢
    have ecs : colsP many wd p = colsF way many (allL wd).length 0 p0 := by rw [colsP, hway, hpot]
    refine ex_forN (T := .one 7) (n := (allL wd).length) (fun k S => ∃ t7 t8, S = ⟨[some (.own 0), some (.dat (.int many)), some (.dat (.int wd)), some (.dat (.int outs)), some (.dat (.int way)), some (.own 1), some (.own 2), t7, t8, none, none, none], [some (.lst (colsF way many k 0 p0).2.ds), some (.lst ((colsF way many k 0 p0).1.map natsD)), some (.lst []), none]⟩) rfl
      (di_rng M.blt.range (de_to (de_len M.blt.len (de_cP c3 hr (da_cons (de_var 2 rfl) da_nil) ⟨wd, rfl, h2, rfl⟩ (.dat _)) (.lst (.dat _))) (by rw [List.length_map])) (by omega)) (pg_name sc_law_rows.nd rfl (.inl rfl)) ⟨none, none, rfl⟩ ?_ ?_
    · rintro k S hk ⟨t7, t8, rfl⟩
      have hp1 : (colsF way many k 0 p0).2.ok := colsF_ok _ _ _ hp0
      have hcl : (colsF way many k 0 p0).1.length = k := colsF_len _ _ _
      have e1 := colsF_snoc (way := way) (many := many) k 0 p0
      rw [Nat.zero_add] at e1
      generalize hq : (colsF way many k 0 p0).2 = p1 at hp1 e1 ⊢
      generalize hcs : (colsF way many k 0 p0).1 = cs at hcl e1 ⊢
      refine ⟨_, rfl, ex_cons (ds_setLc (i := 8) (T := .one 9) (own := [("_law_state", 9)]) (m' := [some (.lst (draws many many p1).2.ds), some (.lst (cs.map natsD)), some (.lst []), none]) (es := (draws many many p1).1.map natD) rfl sc_law_rows.nd (di_rng M.blt.range (de_var 1 rfl) (by omega)) (blkOk_by (N := n_law_rows) (sc := defScope s_law_rows) (by decide +kernel)) rfl (fun _ _ _ _ _ => pg_name sc_law_rows.nd rfl (.inl rfl)) ?_ (.dl _) (by rw [rngN_len]; omega) (sw_true rfl rfl rfl (by decide +kernel))) (ex_cons (ds_expr (de_append (n := 1) (d := natsD (colF way many k p1).1) (S2 := ⟨[some (.own 0), some (.dat (.int many)), some (.dat (.int wd)), some (.dat (.int outs)), some (.dat (.int way)), some (.own 1), some (.own 2), some (.dat (.int k)), some (.dat (natsD (draws many many p1).1)), none, none, none], [some (.lst (colF way many k p1).2.ds), some (.lst (cs.map natsD)), some (.lst []), none]⟩) (de_var 5 rfl) (de_ifB (x := decide (way = 0) || (decide (way = 1) && decide (0 < k))) (S1 := ⟨[some (.own 0), some (.dat (.int many)), some (.dat (.int wd)), some (.dat (.int outs)), some (.dat (.int way)), some (.own 1), some (.own 2), some (.dat (.int k)), some (.dat (natsD (draws many many p1).1)), none, none, none], [some (.lst (draws many many p1).2.ds), some (.lst (cs.map natsD)), some (.lst []), none]⟩) (dt_orB (dt_to (dt_eqI (de_var 4 rfl) de_int) (decide_eq_decide.mpr (by omega))) (dt_andB (dt_to (dt_eqI (de_var 4 rfl) de_int) (decide_eq_decide.mpr (by omega))) (dt_to (dt_gtI (de_var 7 rfl) de_int) (decide_eq_decide.mpr (by omega))))) (fun hb => ?_) (fun hb => ?_)) rfl rfl (by rw [List.length_map]; omega))) (ex_nil ⟨some (.dat (.int k)), some (.dat (natsD (draws many many p1).1)), ?_⟩))⟩
      · exact lc_drawsN (rngN_len many) p1 hp1 fun q hq d hd => ⟨_, _, rfl, fun _ _ _ _ _ => de_cO c1 hr (da_cons (de_var 0 rfl) (da_cons (de_var 1 rfl) da_nil)) rfl ⟨many, q, rfl, rfl, h0, by omega, hq, rfl, rfl⟩ (.dat _), rfl⟩
      · have hb' : way = 0 ∨ (way = 1 ∧ 0 < k) := by simpa using hb
        have e2 : colF way many k p1 = mixN many (List.range many) [] (draws many many p1).2 := if_pos hb'
        have e3 := mixD_rng (n := many) (p := (draws many many p1).2)
        rw [e2]
        refine de_cO c2 hr (da_cons (de_var 0 rfl) (da_cons (de_listRg rfl M.blt.list M.blt.range (de_var 1 rfl) (by omega) (.dl _)) da_nil)) rfl ⟨rngN many, (draws many many p1).2, rfl, rfl, good_nats _, by rw [rngN_len]; omega, draws_ok _ _ hp1, by rw [e3]; rfl, by rw [e3]⟩ (.dat _)
      · have hb' : ¬ (way = 0 ∨ (way = 1 ∧ 0 < k)) := by
          intro hn
          have : (decide (way = 0) || (decide (way = 1) && decide (0 < k))) = true := by simpa using hn
          rw [this] at hb
          cases hb
        have e2 : colF way many k p1 = draws many many p1 := if_neg hb'
        rw [e2]
        exact de_var 8 rfl
      · rw [e1]
        show _ = (⟨_, [_, some (.lst ((cs ++ [(colF way many k p1).1]).map natsD)), _, _]⟩ : DSt)
        rw [List.map_append]
        rfl
    · rintro S ⟨t7, t8, rfl⟩
      rw [← ecs]
      have hcp : (colsP many wd p).2.ok := colsF_ok _ _ _ (draw_ok hp)
      have hcl : (colsP many wd p).1.length = (allL wd).length := colsF_len _ _ _
      have hcm := colsF_mem (way := (draw 4 p).1) h0 (allL wd).length 0 (draw 4 p).2
      have er : rowsF many wd outs p = rowsFrom outs (colsP many wd p).1 many 0 (colsP many wd p).2 := rfl
      rw [er]
      have hcm : ∀ c ∈ (colsP many wd p).1, c.length = many ∧ ∀ x ∈ c, x < many := hcm
      generalize (colsP many wd p).1 = cs at hcl hcm ⊢
      generalize (colsP many wd p).2 = p1 at hcp ⊢
      refine ex_forN (T := .one 9) (n := many) (fun k S => ∃ t7 t8 t9 t10, S = ⟨[some (.own 0), some (.dat (.int many)), some (.dat (.int wd)), some (.dat (.int outs)), some (.dat (.int way)), some (.own 1), some (.own 2), t7, t8, t9, t10, none], [some (.lst (rowsFrom outs cs k 0 p1).2.ds), some (.lst (cs.map natsD)), some (.lst ((rowsFrom outs cs k 0 p1).1.map rowD)), none]⟩) rfl (di_rng M.blt.range (de_var 1 rfl) (by omega)) (pg_name sc_law_rows.nd rfl (.inl rfl)) ⟨_, _, _, _, rfl⟩ ?_ ?_
      · rintro k S hk ⟨t7, t8, t9, t10, rfl⟩
        have hq : (rowsFrom outs cs k 0 p1).2.ok := rowsFrom_ok _ _ _ hcp
        have hrl : (rowsFrom outs cs k 0 p1).1.length = k := rowsFrom_len _ _ _
        have e1 := rowsFrom_snoc (outs := outs) (cs := cs) k 0 p1
        rw [Nat.zero_add] at e1
        generalize (rowsFrom outs cs k 0 p1).2 = q at hq e1 ⊢
        generalize (rowsFrom outs cs k 0 p1).1 = rs at hrl e1 ⊢
        refine ⟨_, rfl, ex_cons (ds_set (i := 10) (de_lst da_nil (.ow 3 _ (by decide) rfl)) sc_law_rows.nd) ?_⟩
        refine ex_forN (T := .one 7) (n := cs.length) (fun j S => ∃ t7, S = ⟨[some (.own 0), some (.dat (.int many)), some (.dat (.int wd)), some (.dat (.int outs)), some (.dat (.int way)), some (.own 1), some (.own 2), t7, t8, some (.dat (.int k)), some (.own 3), none], [some (.lst (rowF outs k (cs.take j) q).2.ds), some (.lst (cs.map natsD)), some (.lst (rs.map rowD)), some (.lst ((rowF outs k (cs.take j) q).1.map goalD))]⟩) rfl (di_rng M.blt.range (de_to (de_len M.blt.len (de_var 5 rfl) (.lst (.own rfl))) (by rw [List.length_map])) (by omega)) (pg_name sc_law_rows.nd rfl (.inl rfl)) ⟨_, rfl⟩ ?_ ?_
        · rintro j S hj ⟨t7, rfl⟩
          have e2 : cs.take (j + 1) = cs.take j ++ [cs.getD j []] := by rw [List.take_succ_eq_append_getElem hj, getD_lt hj]
          have e3 := rowF_snoc (outs := outs) (s := k) (cs.getD j []) (cs.take j) q
          rw [← e2] at e3
          have hq2 : (rowF outs k (cs.take j) q).2.ok := rowF_ok _ _ hq
          have hrl2 : (rowF outs k (cs.take j) q).1.length = j := by
            rw [(rowF_row hk (cs.take j) q fun c hc => hcm c (List.mem_of_mem_take hc)).len, List.length_take]
            omega
          generalize (rowF outs k (cs.take j) q).2 = q2 at hq2 e3 ⊢
          generalize (rowF outs k (cs.take j) q).1 = rw at hrl2 e3 ⊢
          obtain ⟨hc1, hc2⟩ := hcm (cs.getD j []) (by rw [getD_lt hj]; exact List.getElem_mem _)
          refine ⟨_, rfl, ex_cons (ds_expr (de_append (n := 3) (d := goalD ((cs.getD j []).getD k 0, bitsF (draws 3 outs q2).1)) (S2 := ⟨[some (.own 0), some (.dat (.int many)), some (.dat (.int wd)), some (.dat (.int outs)), some (.dat (.int way)), some (.own 1), some (.own 2), some (.dat (.int j)), t8, some (.dat (.int k)), some (.own 3), none], [some (.lst (draws 3 outs q2).2.ds), some (.lst (cs.map natsD)), some (.lst (rs.map rowD)), some (.lst (rw.map goalD))]⟩) (de_var 10 rfl) (de_tup (da_cons (de_ixL (ds := (cs.getD j []).map natD) (d := natD ((cs.getD j []).getD k 0)) (de_ixL (d := natsD (cs.getD j [])) (de_var 5 rfl) (de_var 7 rfl) (.own rfl) (atI_map hj)) (de_var 9 rfl) (.dat _) (atI_map (by rw [hc1]; exact hk))) (da_cons (de_to (u' := .dat (tI (bitsF (draws 3 outs q2).1))) (de_tupleL M.blt.tuple (de_lc (own := [("_law_out", 11)]) (T := .one 11) (es := (draws 3 outs q2).1.map fun x => .int (if x = 0 then 1 else 0)) rfl sc_law_rows.nd (di_rng M.blt.range (de_var 3 rfl) (by omega)) (blkOk_by (N := n_law_rows) (sc := defScope s_law_rows) (by decide +kernel)) rfl (fun _ _ _ _ _ => pg_name sc_law_rows.nd rfl (.inl rfl)) ?_ (.dl _) (by rw [rngN_len]; omega)) (.dat _)) (congrArg U.dat (tI_bits _).symm)) da_nil)) (.cons (.cons .nil)) (by simp)) rfl rfl (by rw [List.length_map]; omega))) (ex_nil ⟨some (.dat (.int j)), ?_⟩)⟩
          · exact lc_drawsN (n := 3) (f := fun x => .int (if x = 0 then 1 else 0)) (rngN_len outs) q2 hq2 fun q hq d hd => ⟨_, _, rfl, fun _ _ _ _ _ => de_to (de_intB M.blt.int (de_eqI (de_cO c1 hr (da_cons (de_var 0 rfl) (da_cons de_int da_nil)) rfl ⟨3, q, rfl, rfl, by decide, by decide, hq, rfl, rfl⟩ (.dat _)) de_int)) (congrArg U.dat (bit_eq _)), rfl⟩
          · rw [e3]
            show _ = (⟨_, [_, _, _, some (.lst ((rw ++ [_]).map goalD))]⟩ : DSt)
            rw [List.map_append]
            rfl
        · rintro S ⟨t7, rfl⟩
          rw [List.take_length]
          refine ex_fz (fz_frz 3 (.lst rfl)) (ex_cons (ds_expr (de_append (n := 2) (d := rowD (rowF outs k cs q).1) (de_var 6 rfl) (de_var 10 rfl) rfl rfl (by rw [List.length_map]; omega))) (ex_nil ⟨t7.map (subU 3 (.lst ((rowF outs k cs q).1.map goalD))), t8.map (subU 3 (.lst ((rowF outs k cs q).1.map goalD))), some (.dat (.int k)), some (.dat (rowD (rowF outs k cs q).1)), ?_⟩))
          rw [e1]
          show _ = (⟨_, [_, _, some (.lst ((rs ++ [_]).map rowD)), _]⟩ : DSt)
          rw [List.map_append]
          rfl
      · rintro S ⟨t7, t8, t9, t10, rfl⟩
        exact ex_ret (de_var 6 rfl) ⟨.lst (by decide) rfl, rfl⟩
end K82
namespace K82
open PySem PySem.Spec PyProof.Rows L2 DL
variable {P : Program} {w : World} {K : PySem.W.Frag} {mg : Str → Option Value} {base : Heap} {C : Addr}
/-! ### _law_model -/
def modD (wd : Nat) (rows : List Row) : D := .tup [.lst ((allL wd).map tI), rowsD rows]
def wsN : List Nat := [1, 1, 1, 2, 0]
def pickW (p : Pot) : Nat := wsN.getD (draw 5 p).1 0
theorem pickW_le (p : Pot) : pickW p ≤ 2 := by
  have h : (draw 5 p).1 < 5 := draw_lt (by decide) p
  unfold pickW
  have : (draw 5 p).1 = 0 ∨ (draw 5 p).1 = 1 ∨ (draw 5 p).1 = 2 ∨ (draw 5 p).1 = 3 ∨ (draw 5 p).1 = 4 := by omega
  rcases this with e | e | e | e | e <;> rw [e] <;> decide
theorem pickD_nat (ws : List Nat) (p : Pot) (h : 0 < ws.length) : pickD (ws.map natD) p = (natD (ws.getD (draw ws.length p).1 0), (draw ws.length p).2) := by
  have hlt := draw_lt h p
  unfold pickD
  rw [List.length_map, getD_lt (by rw [List.length_map]; exact hlt), getD_lt hlt, List.getElem_map]
def wsD : List D := [.int 1, .int 1, .int 1, .int 2, .int 0]
theorem pickD_W (p : Pot) : pickD [.int 1, .int 1, .int 1, .int 2, .int 0] p = (.int (pickW p), (draw 5 p).2) := pickD_nat wsN p (by decide)
def mW (p : Pot) : Nat := pickW p
def mO (p : Pot) : Nat := pickW (draw 5 p).2
def mP (p : Pot) : Pot := (draw 5 (draw 5 p).2).2
def mR (most : Nat) (p : Pot) : List Row × Pot := rowsF (1 + (draw most (mP p)).1) (mW p) (mO p) (draw most (mP p)).2
theorem mR_ok {most : Nat} {p : Pot} (h0 : 0 < most) (h1 : most ≤ 16) : RowsOk (mW p) (mO p) (mR most p).1 := by
  have := draw_lt h0 (mP p)
  have h2 := pickW_le p
  have h3 := pickW_le (draw 5 p).2
  exact rowsF_ok (by omega) (by omega) (by unfold mW; omega) (by unfold mO; omega)
theorem mR_len {most : Nat} {p : Pot} (h0 : 0 < most) : (mR most p).1.length ≤ most := by
  have := draw_lt h0 (mP p)
  unfold mR
  rw [rowsF_len]
  omega
theorem mP_ok {p : Pot} (h : p.ok) : (mP p).ok := draw_ok (draw_ok h)
theorem mR_pot {most : Nat} {p : Pot} (h : p.ok) : (mR most p).2.ok := rowsF_pot (draw_ok (mP_ok h))
def R_law_model (c ds : List D) (r : Res) (c' : List D) : Prop := ∃ (most : Nat) (p : Pot), c = p.ds ∧ ds = [.int most] ∧ 0 < most ∧ most ≤ 15 ∧ p.ok ∧ r = .dat (modD (mW p) (mR most p).1) ∧ c' = (mR most p).2.ds
abbrev C_law_model (P : Program) (w : World) (K : PySem.W.Frag) (mg : Str → Option Value) (base : Heap) : Prop := CO P w K mg base 4 "_law_model" s_law_model p_law_model R_law_model
theorem g_law_model (M : Mod K mg) (c0 : C_law_draw P w K mg base) (c1 : C_law_pick P w K mg base) (c2 : C_law_letters P w K mg base) (c3 : C_law_rows P w K mg base) : C_law_model P w K mg base := by
  refine calO (k := 3) M.law_model sc_law_model 0 (fun c ds r c' h => ?_) fun c ds r c' h f cdv A outer s H hr => ?_
  · obtain ⟨most, p, rfl, rfl, _⟩ := h
    rfl
  · obtain ⟨most, p, rfl, rfl, h0, h1, hp, rfl, rfl⟩ := h
    have e1 := pickD_W p
    have e2 := pickD_W (draw 5 p).2
    have w1 := pickW_le p
    have w2 := pickW_le (draw 5 p).2
    have hp1 : (draw 5 p).2.ok := draw_ok hp
    have hlt := draw_lt h0 (mP p)
    refine Ex.runsO (ex_cons (ds_par (i := 2) (j := 3) (u := .dat (.int (mW p))) (v := .dat (.int (mO p))) (S1 := ⟨_, [some (.lst (mP p).ds)]⟩) rfl sc_law_model.nd (da_cons (S1 := ⟨_, [some (.lst (draw 5 p).2.ds)]⟩) (de_cO c1 hr (da_cons (de_var 0 rfl) (da_cons (de_lst (da_cons de_int (da_cons de_int (da_cons de_int (da_cons de_int (da_cons de_int da_nil))))) (.dl _)) da_nil)) rfl ⟨wsD, p, rfl, rfl, by decide, by decide, hp, by unfold wsD; rw [e1]; rfl, by unfold wsD; rw [e1]⟩ (.dat _)) (by exact da_cons (de_cO c1 hr (da_cons (de_var 0 rfl) (da_cons (de_lst (da_cons de_int (da_cons de_int (da_cons de_int (da_cons de_int (da_cons de_int da_nil))))) (.dl _)) da_nil)) rfl ⟨wsD, (draw 5 p).2, rfl, rfl, by decide, by decide, hp1, by unfold wsD; rw [e2]; rfl, by unfold wsD; rw [e2]; rfl⟩ (.dat _)) da_nil))) ?_)
    refine ex_ret (de_tup (ds := [.lst ((allL (mW p)).map tI), rowsD (mR most p).1]) (S1 := ⟨_, [some (.lst (mR most p).2.ds)]⟩) (da_cons (de_cP c2 hr (da_cons (de_var 2 rfl) da_nil) ⟨mW p, rfl, by unfold mW; omega, rfl⟩ (.dat _)) (da_cons (de_cO c3 hr (da_cons (de_var 0 rfl) (da_cons (de_to (u' := .dat (.int ((1 + (draw most (mP p)).1 : Nat)))) (de_add (de_int (i := 1)) (de_cO c0 hr (da_cons (de_var 0 rfl) (da_cons (de_var 1 rfl) da_nil)) rfl ⟨most, mP p, rfl, rfl, h0, by omega, mP_ok hp, rfl, rfl⟩ (.dat _))) (by rw [Int.natCast_add]; rfl)) (da_cons (de_var 2 rfl) (da_cons (de_var 3 rfl) da_nil)))) rfl ⟨1 + (draw most (mP p)).1, mW p, mO p, (draw most (mP p)).2, rfl, rfl, by omega, by omega, by unfold mW; omega, by unfold mO; omega, draw_ok (mP_ok hp), rfl, rfl⟩ (.dat _)) da_nil)) (.cons (.cons .nil))) ⟨.dat, rfl⟩
/-! ### _law_made -/
def R_law_made (C : Addr) (ds : List D) (r : Res) : Prop := ∃ (wd o : Nat) (rows : List Row), ds = [modD wd rows] ∧ RowsOk wd o rows ∧ r = .dat (macD C wd o rows)
abbrev C_law_made (P : Program) (w : World) (K : PySem.W.Frag) (mg : Str → Option Value) (base : Heap) (C : Addr) : Prop := CE P w K mg base 9 "_law_made" s_law_made p_law_made (R_law_made C)
theorem allL_pos (wd : Nat) : 0 < (allL wd).length := by
  rw [allL_len]
  exact Nat.two_pow_pos wd
theorem g_law_made (M : Mod K mg) (MC : Mac K mg C) (c1 : C_want_width P w K mg base) (c2 : C_want_rows P w K mg base) : C_law_made P w K mg base C := by
  refine calP (k := 8) M.law_made sc_law_made 0 (fun ds r h => ?_) fun ds r h f cdv A outer s H hr => ?_
  · obtain ⟨wd, o, rows, rfl, _⟩ := h
    rfl
  · obtain ⟨wd, o, rows, rfl, hR, rfl⟩ := h
    obtain ⟨fI, fdI, FI, MI, BI⟩ := MC.init
    have GI := g_Cinit (P := P) (w := w) (base := base) M MC c1 c2 FI
    have hl : (allL wd).getD 0 [] ∈ allL wd := by rw [getD_lt (allL_pos wd)]; exact List.getElem_mem _
    have hll := (letters_lets _ hl).2
    have hrow := hR.row (rows.getD 0 []) (by rw [getD_lt hR.pos]; exact List.getElem_mem _)
    have hc0 : 0 < (rows.getD 0 []).length := by rw [hrow.len]; exact allL_pos wd
    have hg := hrow.goal ((rows.getD 0 []).getD 0 (0, [])) (by rw [getD_lt hc0]; exact List.getElem_mem _)
    have x1 : atI ((allL wd).map tI) (0 : Nat) = some (tI ((allL wd).getD 0 [])) := atI_map (allL_pos wd)
    have x2 : atI (rows.map rowD) (0 : Nat) = some (rowD (rows.getD 0 [])) := atI_map hR.pos
    have x3 : atI ((rows.getD 0 []).map goalD) (0 : Nat) = some (goalD ((rows.getD 0 []).getD 0 (0, []))) := atI_map hc0
    refine Ex.runs (ex_ret (de_make MI GI BI (hr.mono (by decide)) MC.name (da_cons (de_len M.blt.len (de_ixL (d := tI ((allL wd).getD 0 [])) (de_ixT (de_var 0 rfl) de_int rfl) de_int (.dat _) x1) (.tup _)) (da_cons (de_len M.blt.len (de_ixT (d := tI ((rows.getD 0 []).getD 0 (0, [])).2) (de_ixL (d := goalD ((rows.getD 0 []).getD 0 (0, []))) (de_ixL (d := rowD (rows.getD 0 [])) (de_ixT (de_var 0 rfl) de_int rfl) de_int (.dat _) x2) de_int (.dat _) x3) de_int rfl) (.tup _)) (da_cons (de_ixT (d := rowsD rows) (de_var 0 rfl) de_int rfl) da_nil))) ⟨wd, o, rows, ?_, hR, rfl⟩) .dat)
    rw [List.length_map, List.length_map, hll, hg.2.2]
/-! ### _law_goal -/
theorem eqD_tI (a b : List Int) : eqD (tI a) (tI b) = decide (a = b) := by
  by_cases h : a = b
  · subst h
    rw [decide_eq_true rfl]
    exact (eqD_iff _ _ (exact_tI a) (exact_tI a)).mpr rfl
  · rw [decide_eq_false h]
    cases e : eqD (tI a) (tI b) with
    | false => rfl
    | true =>
      have := (eqD_iff _ _ (exact_tI a) (exact_tI b)).mp e
      have := congrArg tupI this
      rw [tupI_tI, tupI_tI] at this
      exact absurd this h
theorem good_lets (L : List (List Int)) : good 60 (.lst (L.map tI)) = true := good_lst fun d hd => by
  obtain ⟨l, _, rfl⟩ := List.mem_map.mp hd
  exact good_tI l (by decide)
/-- the place of a letter -/
theorem de_place {X : Cx} {o e : Expr} {S : DSt} {wd : Nat} {l : List Int} {apos cpos : Pos} (hu : X.A.units + 65 < cLine) (ho : DE X o S (.dat (.lst ((allL wd).map tI))) S) (ha : DE X e S (.dat (tI l)) S) (hl : l ∈ allL wd)
    (hbase : attributeBase o "index" X.env (eval o X.env) = eval o X.env := by rfl)
    (hfew : ((backTo cpos (starEach [e] X.env)).all (fun x => !x.1) && (backToKw cpos (keywordEach [] X.env)).all (fun x => x.1.isSome)
      && decide ([e].length + ([] : List Keyword).length + (if ([] : List Keyword).isEmpty then 0 else 1) < 30)) = true := by rfl)
    (hline : (apos.endLine == cpos.line) = true := by rfl) (hs : starEach [e] X.env = (false, eval e X.env) :: starEach [] X.env := by rfl) (hplain : (backTo cpos (starEach [] X.env)).any (·.1) = false := by rfl) :
    DE X (.Call (.Attribute o "index" apos) [e] [] cpos) S (.dat (.int ((allL wd).idxOf l : Nat))) S := by
  have hlt := List.idxOf_lt_length_of_mem hl
  refine de_index (d' := tI l) hu ho ha (.dat _) (.dat _) (good_tI l (by decide)) (good_lets _) ?_ ?_ ?_ hbase hfew hline hs hplain
  · rw [List.getElem?_map, List.getElem?_eq_getElem hlt, List.getElem_idxOf hlt]
    rfl
  · rw [eqD_tI]
    exact decide_eq_true rfl
  · intro m d'' hm hd
    rw [List.getElem?_map, List.getElem?_eq_getElem (by omega)] at hd
    have hd := Option.some.inj hd
    subst hd
    rw [eqD_tI]
    refine decide_eq_false fun he => ?_
    have h2 := List.not_of_lt_findIdx (p := (· == l)) (xs := allL wd) (i := m) hm
    rw [he] at h2
    simp at h2
def R_law_goal (ds : List D) (r : Res) : Prop := ∃ (wd o : Nat) (rows : List Row) (s : Int) (l : List Int), ds = [modD wd rows, .int s, tI l] ∧ RowsOk wd o rows ∧ l ∈ allL wd ∧ 0 ≤ s ∧ s < rows.length ∧ r = .dat (.int (go wd rows s l))
abbrev C_law_goal (P : Program) (w : World) (K : PySem.W.Frag) (mg : Str → Option Value) (base : Heap) : Prop := CE P w K mg base 1 "_law_goal" s_law_goal p_law_goal R_law_goal
theorem row_at {rows : List Row} {s : Int} (h0 : 0 ≤ s) (hs : s < rows.length) : atI (rows.map rowD) s = some (rowD (rows.getD s.toNat [])) := by
  have e : s = ((s.toNat : Nat) : Int) := by omega
  conv => lhs; rw [e]
  exact atI_map (by omega)
theorem cell_at {wd o : Nat} {rows : List Row} (h : RowsOk wd o rows) {s : Int} {l : List Int} (h0 : 0 ≤ s) (hs : s < rows.length) (hl : l ∈ allL wd) : atI ((rows.getD s.toNat []).map goalD) ((allL wd).idxOf l : Nat) = some (goalD (cell rows s.toNat ((allL wd).idxOf l))) := by
  have hlt := List.idxOf_lt_length_of_mem hl
  have hs2 : s.toNat < rows.length := by omega
  have hrow := h.row (rows.getD s.toNat []) (by rw [getD_lt hs2]; exact List.getElem_mem _)
  exact atI_map (by rw [hrow.len]; exact hlt)
theorem g_law_goal (M : Mod K mg) : C_law_goal P w K mg base := by
  refine calP (k := 0) M.law_goal sc_law_goal 0 (fun ds r h => ?_) fun ds r h f cdv A outer s H hr => ?_
  · obtain ⟨wd, o, rows, s, l, rfl, _⟩ := h
    rfl
  · obtain ⟨wd, o, rows, t, l, rfl, hR, hl, h0, h1, rfl⟩ := h
    exact Ex.runs (ex_ret (de_ixT (d := .int (go wd rows t l)) (de_ixL (d := goalD (cell rows t.toNat ((allL wd).idxOf l))) (de_ixL (d := rowD (rows.getD t.toNat [])) (de_ixT (d := rowsD rows) (de_var 0 rfl) de_int rfl) (de_var 1 rfl) (.dat _) (row_at h0 h1)) (de_place hr.u65 (de_ixT (d := .lst ((allL wd).map tI)) (de_var 0 rfl) de_int rfl) (de_var 2 rfl) hl) (.dat _) (cell_at hR h0 h1 hl)) de_int rfl) .dat)
end K82
namespace K82
open PySem PySem.Spec PyProof.Rows L2 DL
variable {P : Program} {w : World} {K : PySem.W.Frag} {mg : Str → Option Value} {base : Heap} {C : Addr}
/-! ### _law_run -/
def runI (wd : Nat) (rows : List Row) : Int → List (List Int) → Int
  | s, [] => s
  | s, l :: ls => runI wd rows (go wd rows s l) ls
def outI (wd : Nat) (rows : List Row) (s : Int) (l : List Int) : List Int := (cell rows s.toNat ((allL wd).idxOf l)).2
def outsI (wd : Nat) (rows : List Row) : Int → List (List Int) → List (List Int)
  | _, [] => []
  | s, l :: ls => outI wd rows s l :: outsI wd rows (go wd rows s l) ls
theorem runI_ok {wd o : Nat} {rows : List Row} (h : RowsOk wd o rows) : ∀ (ls : List (List Int)) (s : Int), 0 ≤ s → s < rows.length → (∀ l ∈ ls, l ∈ allL wd) → 0 ≤ runI wd rows s ls ∧ runI wd rows s ls < rows.length
  | [], s, h0, h1, _ => ⟨h0, h1⟩
  | l :: ls, s, h0, h1, hl => by
    obtain ⟨g0, g1⟩ := go_ok h h0 h1 (hl l List.mem_cons_self)
    exact runI_ok h ls _ g0 g1 fun l h => hl l (List.mem_cons_of_mem _ h)
theorem runI_snoc {wd : Nat} {rows : List Row} (l : List Int) : ∀ (ls : List (List Int)) (s : Int), runI wd rows s (ls ++ [l]) = go wd rows (runI wd rows s ls) l
  | [], _ => rfl
  | _ :: ls, s => runI_snoc l ls _
theorem outsI_snoc {wd : Nat} {rows : List Row} (l : List Int) : ∀ (ls : List (List Int)) (s : Int), outsI wd rows s (ls ++ [l]) = outsI wd rows s ls ++ [outI wd rows (runI wd rows s ls) l]
  | [], _ => rfl
  | x :: ls, s => by
    show outI wd rows s x :: outsI wd rows _ (ls ++ [l]) = _
    rw [outsI_snoc l ls]
    rfl
theorem outsI_len {wd : Nat} {rows : List Row} : ∀ (ls : List (List Int)) (s : Int), (outsI wd rows s ls).length = ls.length
  | [], _ => rfl
  | x :: ls, s => by
    show (_ :: outsI wd rows _ ls).length = _
    rw [List.length_cons, outsI_len ls]
    rfl
def R_law_run (ds : List D) (r : Res) : Prop := ∃ (wd o : Nat) (rows : List Row) (s : Int) (v : D) (ls : List (List Int)), ds = [modD wd rows, .int s, v] ∧ sqOf v (ls.map tI) ∧ RowsOk wd o rows ∧ (∀ l ∈ ls, l ∈ allL wd) ∧ ls.length ≤ 10000 ∧ 0 ≤ s ∧ s < rows.length ∧ r = .dat (.tup [.int (runI wd rows s ls), .lst ((outsI wd rows s ls).map tI)])
abbrev C_law_run (P : Program) (w : World) (K : PySem.W.Frag) (mg : Str → Option Value) (base : Heap) : Prop := CE P w K mg base 1 "_law_run" s_law_run p_law_run R_law_run
theorem g_law_run (M : Mod K mg) : C_law_run P w K mg base := by
  refine calP (k := 0) M.law_run sc_law_run 2 (fun ds r h => ?_) fun ds r h f cdv A outer s H hr => ?_
  · obtain ⟨wd, o, rows, s, v, l, rfl, _⟩ := h
    rfl
  · obtain ⟨wd, o, rows, t, v, ls, rfl, hv, hR, hl, hz, h0, h1, rfl⟩ := h
    refine Ex.runs (ex_cons (ds_par (i := 3) (j := 4) rfl sc_law_run.nd (da_cons (de_var 1 rfl) (da_cons (de_lst da_nil (.ow 1 _ (by decide) rfl)) da_nil))) ?_)
    refine ex_forI (T := .one 5) (fun k S => ∃ t5 t6, S = ⟨[some (.dat (modD wd rows)), some (.dat (.int t)), some (.dat v), some (.dat (.int (runI wd rows t (ls.take k)))), some (.own 1), t5, t6], [none, some (.lst ((outsI wd rows t (ls.take k)).map tI))]⟩) rfl (di_sq (de_var 2 rfl) hv) (pg_name sc_law_run.nd rfl (.inl rfl)) ⟨none, none, rfl⟩ ?_ ?_
    · rintro k d S hd ⟨t5, t6, rfl⟩
      rw [List.getElem?_map] at hd
      cases hk : ls[k]? with
      | none => rw [hk] at hd; cases hd
      | some l =>
        rw [hk] at hd
        have hd := Option.some.inj hd
        subst hd
        obtain ⟨hk1, hk2⟩ := List.getElem?_eq_some_iff.mp hk
        have hlm : l ∈ allL wd := hl l (hk2 ▸ List.getElem_mem _)
        obtain ⟨g0, g1⟩ := runI_ok hR (ls.take k) t h0 h1 fun l h => hl l (List.mem_of_mem_take h)
        have e2 : ls.take (k + 1) = ls.take k ++ [l] := by rw [List.take_succ_eq_append_getElem hk1, hk2]
        refine ⟨_, rfl, ex_cons (ds_asgT (is := [3, 6]) (ds := [.int (go wd rows (runI wd rows t (ls.take k)) l), tI (outI wd rows (runI wd rows t (ls.take k)) l)]) (de_ixL (d := goalD (cell rows (runI wd rows t (ls.take k)).toNat ((allL wd).idxOf l))) (de_ixL (d := rowD (rows.getD (runI wd rows t (ls.take k)).toNat [])) (de_ixT (d := rowsD rows) (de_var 0 rfl) de_int rfl) (de_var 3 rfl) (.dat _) (row_at g0 g1)) (de_place hr.u65 (de_ixT (d := .lst ((allL wd).map tI)) (de_var 0 rfl) de_int rfl) (de_var 5 rfl) hlm) (.dat _) (cell_at hR g0 g1 hlm)) (tg_two rfl sc_law_run.nd)) (ex_cons (ds_expr (de_append (n := 1) (d := tI (outI wd rows (runI wd rows t (ls.take k)) l)) (de_var 4 rfl) (de_var 6 rfl) rfl rfl (by rw [List.length_map, outsI_len, List.length_take]; omega))) (ex_nil ⟨some (.dat (tI l)), some (.dat (tI (outI wd rows (runI wd rows t (ls.take k)) l))), ?_⟩))⟩
        rw [e2, runI_snoc, outsI_snoc, List.map_append]
        rfl
    · rintro S ⟨t5, t6, rfl⟩
      rw [List.length_map, List.take_length]
      exact ex_fz (fz_frz 1 (.lst rfl)) (ex_ret (de_tup (da_cons (de_var 3 rfl) (da_cons (de_var 4 rfl) da_nil))) .dat)
/-! ### _law_word, _law_some -/
def wordF (L : List (List Int)) (k : Nat) (p : Pot) : List (List Int) := (draws L.length k p).1.map fun i => L.getD i []
def R_law_word (c ds : List D) (r : Res) (c' : List D) : Prop := ∃ (L : List (List Int)) (most : Nat) (p : Pot), c = p.ds ∧ ds = [.lst (L.map tI), .int most] ∧ 0 < L.length ∧ L.length ≤ 16 ∧ most ≤ 100 ∧ p.ok ∧
  r = .dat (.lst ((wordF L (draw (most + 1) p).1 (draw (most + 1) p).2).map tI)) ∧ c' = (draws L.length (draw (most + 1) p).1 (draw (most + 1) p).2).2.ds
abbrev C_law_word (P : Program) (w : World) (K : PySem.W.Frag) (mg : Str → Option Value) (base : Heap) : Prop := CO P w K mg base 3 "_law_word" s_law_word p_law_word R_law_word
theorem g_law_word (M : Mod K mg) (c0 : C_law_draw P w K mg base) (c1 : C_law_pick P w K mg base) : C_law_word P w K mg base := by
  refine calO (k := 2) M.law_word sc_law_word 0 (fun c ds r c' h => ?_) fun c ds r c' h f cdv A outer s H hr => ?_
  · obtain ⟨L, most, p, rfl, rfl, _⟩ := h
    rfl
  · obtain ⟨L, most, p, rfl, rfl, h0, h1, h2, hp, rfl, rfl⟩ := h
    have hlt := draw_lt (n := most + 1) (by omega) p
    have hp1 : (draw (most + 1) p).2.ok := draw_ok hp
    have e1 : ((wordF L (draw (most + 1) p).1 (draw (most + 1) p).2).map tI) = (draws L.length (draw (most + 1) p).1 (draw (most + 1) p).2).1.map fun i => tI (L.getD i []) := by
      unfold wordF
      rw [List.map_map]
      rfl
    rw [e1]
    refine Ex.runsO (ex_ret (de_lc (own := [("_law_turn", 3)]) (T := .one 3) (m' := [some (.lst (draws L.length (draw (most + 1) p).1 (draw (most + 1) p).2).2.ds)]) rfl sc_law_word.nd (di_rng (n := (draw (most + 1) p).1) M.blt.range (de_cO c0 hr (da_cons (de_var 0 rfl) (da_cons (de_to (u' := .dat (.int ((most + 1 : Nat)))) (de_add (de_var 2 rfl) de_int) rfl) da_nil)) rfl ⟨most + 1, p, rfl, rfl, by omega, by omega, hp, rfl, rfl⟩ (.dat _)) (by omega)) (blkOk_by (N := n_law_word) (sc := defScope s_law_word) (by decide +kernel)) rfl (fun _ _ _ _ _ => pg_name sc_law_word.nd rfl (.inl rfl)) (lc_drawsN (rngN_len _) _ hp1 fun q hq d hd => ?_) (.dl _) (by rw [rngN_len]; omega)) ⟨.dat, rfl⟩)
    have hlt2 := draw_lt h0 q
    have e2 : pickD (L.map tI) q = (tI (L.getD (draw L.length q).1 []), (draw L.length q).2) := by
      unfold pickD
      rw [List.length_map, getD_lt (by rw [List.length_map]; exact hlt2), getD_lt hlt2, List.getElem_map]
    exact ⟨_, _, rfl, fun _ _ _ _ _ => de_cO c1 hr (da_cons (de_var 0 rfl) (da_cons (de_var 1 rfl) da_nil)) rfl ⟨L.map tI, q, rfl, rfl, by rw [List.length_map]; omega, by rw [List.length_map]; omega, hq, by rw [e2], by rw [e2]⟩ (.dat _), rfl⟩
/-- what is kept where a nought was drawn -/
def selF {α : Type} : List α → List Nat → List α
  | d :: ds, b :: bs => if b = 0 then d :: selF ds bs else selF ds bs
  | _, _ => []
theorem selF_map {α β : Type} (f : α → β) : ∀ (ds : List α) (bs : List Nat), selF (ds.map f) bs = (selF ds bs).map f
  | [], _ => rfl
  | _ :: _, [] => rfl
  | d :: ds, b :: bs => by
    show (if b = 0 then f d :: selF (ds.map f) bs else selF (ds.map f) bs) = (if b = 0 then d :: selF ds bs else selF ds bs).map f
    rw [selF_map f ds bs]
    split <;> rfl
theorem selF_sub {α : Type} : ∀ (ds : List α) (bs : List Nat), (selF ds bs).Sublist ds
  | [], _ => List.Sublist.refl _
  | _ :: ds, [] => List.nil_sublist _
  | d :: ds, b :: bs => by
    show (if b = 0 then d :: selF ds bs else selF ds bs).Sublist _
    split
    · exact (selF_sub ds bs).cons₂ d
    · exact (selF_sub ds bs).cons d
theorem lc_sel {X : Cx} {scope : Scope} {T : Tgt} {elt c : Expr} {g : List (Option U)} {n : Nat} {f : D → D} {mr : List (Option MO)} : ∀ (ds : List D) (p : Pot), p.ok → (∀ (p : Pot), p.ok → ∀ d ∈ ds, ∃ S1 S2, asg T d ⟨g, some (.lst p.ds) :: mr⟩ = some S1 ∧ BT X scope [c] S1 (decide ((draw n p).1 = 0)) S2 ∧ S2.m = some (.lst (draw n p).2.ds) :: mr ∧ ((draw n p).1 = 0 → ∃ S3, BE X scope elt S2 (.dat (f d)) S3 ∧ S3.m = S2.m)) →
    LcR X scope T [c] elt g ds (some (.lst p.ds) :: mr) ((selF ds (draws n ds.length p).1).map f) (some (.lst (draws n ds.length p).2.ds) :: mr)
  | [], _, _, _ => .nil
  | d :: ds, p, hp, h => by
    obtain ⟨S1, S2, h1, h2, h3, h4⟩ := h p hp d List.mem_cons_self
    have ih := lc_sel (f := f) ds (draw n p).2 (draw_ok hp) fun p hp d hd => h p hp d (List.mem_cons_of_mem _ hd)
    show LcR X scope T [c] elt g (d :: ds) _ ((if (draw n p).1 = 0 then d :: selF ds (draws n ds.length (draw n p).2).1 else selF ds (draws n ds.length (draw n p).2).1).map f) _
    by_cases hz : (draw n p).1 = 0
    · rw [if_pos hz]
      rw [decide_eq_true hz] at h2
      obtain ⟨S3, h5, h6⟩ := h4 hz
      refine .yes h1 h2 h5 ?_
      rw [h6, h3]
      exact ih
    · rw [if_neg hz]
      rw [decide_eq_false hz] at h2
      refine .no h1 h2 ?_
      rw [h3]
      exact ih
theorem lc_selN {X : Cx} {scope : Scope} {T : Tgt} {elt c : Expr} {g : List (Option U)} {n k : Nat} {f : D → D} {mr : List (Option MO)} {ds es : List D} (hk : ds.length = k) (p : Pot) (hp : p.ok) (e : (selF ds (draws n k p).1).map f = es) (h : ∀ (p : Pot), p.ok → ∀ d ∈ ds, ∃ S1 S2, asg T d ⟨g, some (.lst p.ds) :: mr⟩ = some S1 ∧ BT X scope [c] S1 (decide ((draw n p).1 = 0)) S2 ∧ S2.m = some (.lst (draw n p).2.ds) :: mr ∧ ((draw n p).1 = 0 → ∃ S3, BE X scope elt S2 (.dat (f d)) S3 ∧ S3.m = S2.m)) :
    LcR X scope T [c] elt g ds (some (.lst p.ds) :: mr) es (some (.lst (draws n k p).2.ds) :: mr) := by
  subst hk
  subst e
  exact lc_sel ds p hp h
def someF (n : Nat) (p : Pot) : List Nat × Pot :=
  if selF (List.range n) (draws 2 n p).1 = [] then ([(draw n (draws 2 n p).2).1], (draw n (draws 2 n p).2).2) else (selF (List.range n) (draws 2 n p).1, (draws 2 n p).2)
theorem someF_ok {n : Nat} {p : Pot} (h : p.ok) : (someF n p).2.ok := by
  unfold someF
  split
  · exact draw_ok (draws_ok _ _ h)
  · exact draws_ok _ _ h
theorem someF_ne {n : Nat} {p : Pot} : (someF n p).1 ≠ [] := by
  unfold someF
  split
  · exact List.cons_ne_nil _ _
  · assumption
theorem someF_lt {n : Nat} {p : Pot} (h : 0 < n) : ∀ x ∈ (someF n p).1, x < n := by
  unfold someF
  split
  · intro x hx
    rw [List.mem_singleton.mp hx]
    exact draw_lt h _
  · intro x hx
    exact List.mem_range.mp ((selF_sub _ _).subset hx)
theorem someF_srt {n : Nat} {p : Pot} : (someF n p).1.Pairwise (· < ·) := by
  unfold someF
  split
  · exact List.pairwise_singleton _ _
  · exact List.pairwise_lt_range.sublist (selF_sub _ _)
/-! ### _law_pairs -/
def pairsUp (n k : Nat) : List (List Int) := (List.range k).flatMap fun i => (List.range (n - (i + 1))).map fun j => [(i : Int), ((i : Int) + 1) + (j : Nat)]
theorem pairsUp_len {n k : Nat} (h : n ≤ 16) (hk : k ≤ n) : (pairsUp n k).length ≤ 256 := by
  have : ∀ k : Nat, (pairsUp n k).length ≤ k * 16 := by
    intro k
    induction k with
    | zero => exact Nat.le_refl _
    | succ k ih =>
      unfold pairsUp at ih ⊢
      rw [List.range_succ, List.flatMap_append, List.length_append]
      simp at ih ⊢
      omega
  have := this k
  omega
end K82
namespace K82
open PySem PySem.Spec PyProof.Rows L2 DL
variable {P : Program} {w : World} {K : PySem.W.Frag} {mg : Str → Option Value} {base : Heap} {C : Addr}
/-! ### two states that are brought together, by pairs -/
abbrev pstep (wd : Nat) (rows : List Row) (q : Int × Int) (j : Nat) : Int × Int := (go wd rows q.1 (ltr wd j), go wd rows q.2 (ltr wd j))
abbrev prun (wd : Nat) (rows : List Row) (q : Int × Int) (u : List Nat) : Int × Int := BF.run (pstep wd rows) q u
def eqP (q : Int × Int) : Bool := q.1 == q.2
def inP (n : Nat) (q : Int × Int) : Prop := (0 ≤ q.1 ∧ q.1 < n) ∧ 0 ≤ q.2 ∧ q.2 < n
abbrev PInv (wd : Nat) (rows : List Row) (q : Int × Int) (L : List (List Nat)) (i l : Nat) : Prop := BF.Inv (pstep wd rows) q (allL wd).length L i l
theorem inP_step {wd o : Nat} {rows : List Row} (h : RowsOk wd o rows) {q : Int × Int} {j : Nat} (hj : j < (allL wd).length) (k : inP rows.length q) : inP rows.length (pstep wd rows q j) :=
  ⟨go_ok h k.1.1 k.1.2 (ltr_mem hj), go_ok h k.2.1 k.2.2 (ltr_mem hj)⟩
theorem inP_run {wd o : Nat} {rows : List Row} (h : RowsOk wd o rows) : ∀ (u : List Nat) {q : Int × Int}, inP rows.length q → (∀ x ∈ u, x < (allL wd).length) → inP rows.length (prun wd rows q u)
  | [], _, k, _ => k
  | j :: u, q, k, hu => inP_run h u (inP_step h (hu j List.mem_cons_self) k) fun x hx => hu x (List.mem_cons_of_mem _ hx)
theorem lots_pair {wd : Nat} {rows : List Row} : ∀ (u : List Nat) (q : Int × Int), lrun wd rows (sset [q.1, q.2]) u = sset [(prun wd rows q u).1, (prun wd rows q u).2]
  | [], _ => rfl
  | j :: u, q => by
    have e : lstep wd rows (sset [q.1, q.2]) j = sset [(pstep wd rows q j).1, (pstep wd rows q j).2] := by
      refine sset_eq fun k => ?_
      rw [List.mem_map]
      constructor
      · rintro ⟨s, hs, rfl⟩
        have := mem_sset.mp hs
        simp at this
        rcases this with rfl | rfl <;> simp
      · intro hk
        simp at hk
        rcases hk with rfl | rfl
        · exact ⟨q.1, mem_sset.mpr (by simp), rfl⟩
        · exact ⟨q.2, mem_sset.mpr (by simp), rfl⟩
    show lrun wd rows (lstep wd rows (sset [q.1, q.2]) j) u = _
    rw [e]
    exact lots_pair u (pstep wd rows q j)
theorem two_one (x y : Int) : ((sset [x, y]).length == 1) = (x == y) := by
  by_cases h : x = y
  · subst h
    simp [sset, ins1]
  · by_cases h2 : x < y
    · simp [sset, ins1, h, h2]
    · simp [sset, ins1, h, h2]
theorem p_card {wd o : Nat} {rows : List Row} (h : RowsOk wd o rows) {q : Int × Int} (k : inP rows.length q) (L : List (List Nat)) (i l : Nat) (I : PInv wd rows q L i l) : L.length ≤ rows.length * rows.length := by
  have := nodup_len I.dist (b := (List.range rows.length).flatMap fun (i : Nat) => (List.range rows.length).map fun (j : Nat) => ((i : Int), (j : Int))) fun x hx => by
    obtain ⟨u, hu, rfl⟩ := List.mem_map.mp hx
    have hk := inP_run h u k (I.dig u hu)
    refine List.mem_flatMap.mpr ⟨(prun wd rows q u).1.toNat, List.mem_range.mpr (by have := hk.1; omega), List.mem_map.mpr ⟨(prun wd rows q u).2.toNat, List.mem_range.mpr (by have := hk.2; omega), ?_⟩⟩
    have e1 : (((prun wd rows q u).1.toNat : Nat) : Int) = (prun wd rows q u).1 := by have := hk.1; omega
    have e2 : (((prun wd rows q u).2.toNat : Nat) : Int) = (prun wd rows q u).2 := by have := hk.2; omega
    exact Prod.ext e1 e2
  rw [List.length_map, List.length_flatMap] at this
  simp only [List.length_map, List.length_range, List.map_const', List.sum_replicate_nat] at this
  exact this
theorem meet_same {wd o : Nat} {rows : List Row} (h : RowsOk wd o rows) {a b : Nat} (w : List Nat) : eqP (prun wd rows ((a : Int), (b : Int)) w) = oneL wd rows (sset [(a : Int), (b : Int)]) w := by
  have e := lots_pair (wd := wd) (rows := rows) w ((a : Int), (b : Int))
  unfold oneL
  rw [e, two_one]
  rfl
theorem meet_some {wd o : Nat} {rows : List Row} (h : RowsOk wd o rows) {a b : Nat} (ha : a < rows.length) (hb : b < rows.length) {u : List Nat} (l : BF.Least (pstep wd rows) ((a : Int), (b : Int)) (allL wd).length eqP u) : meetW wd rows a b = some u := by
  have I := lotsF_inv h (okLot_two ha hb)
  cases e : meetW wd rows a b with
  | none =>
    have hn := BF.Inv.never I (p := fun lot => lot.length == 1) (fun v hv => by
      have := List.find?_eq_none.mp e v hv
      cases q : (lrun wd rows (sset [(a : Int), (b : Int)]) v).length == 1 with
      | false => rfl
      | true => exact absurd q this) u l.dig
    have := meet_same h (a := a) (b := b) u
    rw [l.holds] at this
    have hn : oneL wd rows (sset [(a : Int), (b : Int)]) u = false := hn
    rw [hn] at this
    cases this
  | some v =>
    have l2 := BF.Inv.find I (p := fun lot => lot.length == 1) e
    rw [BF.Least.same l l2 fun w _ => meet_same h w]
theorem meet_none {wd o : Nat} {rows : List Row} (h : RowsOk wd o rows) {a b : Nat} (ha : a < rows.length) (hb : b < rows.length) (l : ∀ v, (∀ x ∈ v, x < (allL wd).length) → eqP (prun wd rows ((a : Int), (b : Int)) v) = false) : meetW wd rows a b = none := by
  have I := lotsF_inv h (okLot_two ha hb)
  cases e : meetW wd rows a b with
  | none => rfl
  | some v =>
    have l2 := BF.Inv.find I (p := fun lot => lot.length == 1) e
    have e3 := meet_same h (a := a) (b := b) v
    rw [l v l2.dig] at e3
    have h4 : oneL wd rows (sset [(a : Int), (b : Int)]) v = true := l2.holds
    rw [h4] at e3
    cases e3
/-! ### _law_meeting -/
def wordD (wd : Nat) : Option (List Nat) → D
  | some u => .lst ((lw wd u).map tI)
  | none => .non
def pairT (q : Int × Int) : D := tI [q.1, q.2]
def wqD (wd : Nat) (rows : List Row) (q : Int × Int) (u : List Nat) : D := .tup [.int (prun wd rows q u).1, .int (prun wd rows q u).2, .lst ((lw wd u).map tI)]
def wqF (wd : Nat) (rows : List Row) (q : Int × Int) (L : List (List Nat)) (i : Nat) : List D := (L.drop i).map (wqD wd rows q)
theorem good_wq {wd : Nat} {rows : List Row} {q : Int × Int} {L : List (List Nat)} {i : Nat} : good 60 (.lst (wqF wd rows q L i)) = true := by
  refine good_lst fun d hd => ?_
  obtain ⟨u, _, rfl⟩ := List.mem_map.mp hd
  refine good_tup fun d hd => ?_
  simp at hd
  rcases hd with rfl | rfl | rfl
  · exact good_int
  · exact good_int
  · refine good_lst fun d hd => ?_
    obtain ⟨l, _, rfl⟩ := List.mem_map.mp hd
    exact good_tI l (by decide)
theorem any_pairs (Q : List (Int × Int)) (q : Int × Int) : ((Q.map pairT).any fun z => eqD z (pairT q)) = decide (q ∈ Q) := by
  rw [List.any_map]
  by_cases h : q ∈ Q
  · rw [decide_eq_true h]
    refine List.any_eq_true.mpr ⟨q, h, ?_⟩
    show eqD (pairT q) (pairT q) = true
    unfold pairT
    rw [eqD_tI]
    exact decide_eq_true rfl
  · rw [decide_eq_false h]
    refine List.any_eq_false.mpr fun p hp => ?_
    show ¬ eqD (pairT p) (pairT q) = true
    unfold pairT
    rw [eqD_tI]
    intro e
    have e := of_decide_eq_true e
    simp at e
    exact h (Prod.ext e.1 e.2 ▸ hp)
end K82
namespace K82
open PySem PySem.Spec PyProof.Rows L2 DL
variable {P : Program} {w : World} {K : PySem.W.Frag} {mg : Str → Option Value} {base : Heap} {C : Addr}
/-! ### what the law asks of a value -/
inductive RepE : D → Prop
  | non : RepE .non
  | emp : RepE (.tup [.dic true [] [], .int 0])
  | mild {d : D} : mild [16, 16] d = true → isSeqD d = true → RepE d
theorem de_reprV {X : Cx} {a : Expr} {S S1 : DSt} {d : D} {p pos : Pos} (r : RepE d) (hgd : X.A.guards = some []) (hu : X.A.units + 64 < cLine) (hm : X.mg "repr" = none) (ha : DE X a S (.dat d) S1) (hg : Gl X "repr" := by rfl) (he : starEach [a] X.env = (false, eval a X.env) :: starEach [] X.env := by rfl) :
    DE X (.Call (.Name "repr" p) [a] [] pos) S (.dat (.str (reprD d))) S1 := by
  cases r with
  | non => exact de_reprN hm ha hg he
  | emp => exact de_reprE hgd hu hm ha hg he
  | mild h1 h2 => exact de_repr hgd hu hm ha (.dat _) h1 h2 (by decide) (by decide) hg he
def strsN (n : Nat) : List D := (pairsN n).map fun p => .str (reprD (tI p))
theorem strs_lay : ((List.range 9).all fun n => (pairsN n).all fun p => PyData.canLay0 (.str (reprD (tI p)))) = true := by decide +kernel
theorem good_strs {n : Nat} (h : n ≤ 8) : good 60 (.lst (strsN n)) = true := good_lst fun d hd => by
  obtain ⟨q, hq, rfl⟩ := List.mem_map.mp hd
  simp only [good]
  exact List.all_eq_true.mp (List.all_eq_true.mp strs_lay n (List.mem_range.mpr (by omega))) q hq
structure okEl (n : Nat) (d : D) : Prop where
  rep : RepE d
  lay : PyData.canLay0 (.str (reprD d)) = true
  ok : okV d
  known : ((strsN n).any fun z => eqD z (.str (reprD d))) = isPr n d
structure okW2 (n : Nat) (v : D) : Prop where
  ok : okV v
  mem : ∀ ds, sqOf v ds → ds.length ≤ 40 ∧ ∀ d ∈ ds, okEl n d
theorem okW2.toW {n : Nat} {v : D} (h : okW2 n v) : okW v := ⟨h.ok, fun ds hs d hd => ((h.mem ds hs).2 d hd).ok⟩
def dd : List (List Int) → List (List Int)
  | [] => []
  | x :: xs => if x ∈ dd xs then dd xs else x :: dd xs
theorem dd_mem : ∀ (xs : List (List Int)) (k : List Int), k ∈ dd xs ↔ k ∈ xs
  | [], k => Iff.rfl
  | x :: xs, k => by
    unfold dd
    split
    · rename_i h
      rw [dd_mem xs]
      rw [dd_mem xs] at h
      constructor
      · exact List.mem_cons_of_mem _
      · intro hk
        rcases List.mem_cons.mp hk with rfl | hk
        · exact h
        · exact hk
    · rw [List.mem_cons, List.mem_cons, dd_mem xs]
theorem dd_nodup : ∀ xs : List (List Int), (dd xs).Nodup
  | [] => List.nodup_nil
  | x :: xs => by
    unfold dd
    split
    · exact dd_nodup xs
    · exact List.nodup_cons.mpr ⟨by assumption, dd_nodup xs⟩
theorem dd_len {xs ys : List (List Int)} (hn : ys.Nodup) (h : ∀ k, k ∈ ys ↔ k ∈ xs) : ys.length = (dd xs).length :=
  Nat.le_antisymm (nodup_len hn fun k hk => (dd_mem xs k).mpr ((h k).mp hk)) (nodup_len (dd_nodup xs) fun k hk => (h k).mpr ((dd_mem xs k).mp hk))
theorem dd_eq (xs : List (List Int)) : ((dd xs).length = xs.length ↔ xs.Nodup) := dist_of (dd_nodup xs) (dd_mem xs)
theorem sort_beh {wd : Nat} {rows : List Row} {a b : Int} {l : List Int} : sort2 (go wd rows a l) (go wd rows b l) = beh wd rows [a, b] l := by
  unfold sort2 beh mn mx
  simp only [List.getD_cons_zero, List.getD_cons_succ]
  by_cases h : go wd rows b l < go wd rows a l
  · rw [if_pos h, if_pos h, if_neg (by omega)]
  · rw [if_neg h, if_neg h]
    by_cases h2 : go wd rows b l > go wd rows a l
    · rw [if_pos h2]
    · rw [if_neg h2]
      have : go wd rows a l = go wd rows b l := by omega
      rw [this]
theorem any_tI (xs : List (List Int)) (b : List Int) : ((xs.map tI).any fun z => eqD z (tI b)) = decide (b ∈ xs) := by
  rw [List.any_map]
  by_cases h : b ∈ xs
  · rw [decide_eq_true h]
    refine List.any_eq_true.mpr ⟨b, h, ?_⟩
    show eqD (tI b) (tI b) = true
    rw [eqD_tI]
    exact decide_eq_true rfl
  · rw [decide_eq_false h]
    refine List.any_eq_false.mpr fun p hp => ?_
    show ¬ eqD (tI p) (tI b) = true
    rw [eqD_tI]
    intro e
    exact h (of_decide_eq_true e ▸ hp)
theorem good_sq {v : D} {xs : List (List Int)} (h : sqOf v (xs.map tI)) : good 60 v = true := by
  have : ∀ d ∈ xs.map tI, good 59 d = true := fun d hd => by
    obtain ⟨l, _, rfl⟩ := List.mem_map.mp hd
    exact good_tI l (by decide)
  rcases h with rfl | rfl
  · exact good_lst this
  · exact good_tup this
theorem dt_notIn_sq {X : Cx} {a b : Expr} {S : DSt} {v : D} {xs : List (List Int)} {k : List Int} {pos : Pos} (hu : X.A.units + 65 < cLine) (ha : DE X a S (.dat (tI k)) S) (hb : DE X b S (.dat v) S) (hs : sqOf v (xs.map tI)) (hm : behindInMarks .NotIn b = false := by rfl) : DT X (.Compare a [.NotIn] [b] pos) S (!decide (k ∈ xs)) S := by
  have g := good_sq hs
  rcases hs with rfl | rfl
  · exact dt_to (dt_notInD hu ha hb (.dat _) (.dat _) (good_tI _ (by decide)) g hm) (by rw [any_tI])
  · exact dt_to (dt_notInT hu ha hb (.dat _) (.dat _) (good_tI _ (by decide)) g hm) (by rw [any_tI])
theorem de_lenSq {X : Cx} {a : Expr} {S S1 : DSt} {v : D} {xs : List (List Int)} {p p2 pos pos2 : Pos} (hc : X.calm = true) (hu : X.A.units + 64 < cLine) (hm : X.mg "len" = none) (hm2 : X.mg "set" = none) (ha : DE X a S (.dat v) S1) (hs : sqOf v (xs.map tI)) (few : xs.length < 64) (hg : Gl X "len" := by rfl) (hg2 : Gl X "set" := by rfl)
    (he : starEach [a] X.env = (false, eval a X.env) :: starEach [] X.env := by rfl) (he2 : starEach [.Call (.Name "set" p2) [a] [] pos2] X.env = (false, eval (.Call (.Name "set" p2) [a] [] pos2) X.env) :: starEach [] X.env := by rfl) :
    DE X (.Call (.Name "len" p) [.Call (.Name "set" p2) [a] [] pos2] [] pos) S (.dat (.int (dd xs).length)) S1 := by
  rcases hs with rfl | rfl
  · exact de_lenST hc hu hm hm2 ha (.dat _) few hg hg2 he he2 fun ys h1 h2 => dd_len h1 h2
  · exact de_lenSTt hc hu hm hm2 ha few hg hg2 he he2 fun ys h1 h2 => dd_len h1 h2
end K82
namespace K82
open PySem PySem.Spec PyProof.Rows L2 DL
variable {P : Program} {w : World} {K : PySem.W.Frag} {mg : Str → Option Value} {base : Heap} {C : Addr}
/-! ### _law_meetings_right -/
def noMeet (wd : Nat) (rows : List Row) (i j : Nat) : Bool := decide (i < j) && (meetW wd rows i j).isNone
def dueRow (wd : Nat) (rows : List Row) (i k : Nat) : List (List Int) := ((List.range k).filter (noMeet wd rows i)).map fun (j : Nat) => [(i : Int), (j : Int)]
def dueUp (wd : Nat) (rows : List Row) (k : Nat) : List (List Int) := (List.range k).flatMap fun i => dueRow wd rows i rows.length
def dueF (wd : Nat) (rows : List Row) : List (List Int) := dueUp wd rows rows.length
theorem dueRow_len {wd : Nat} {rows : List Row} {i k : Nat} : (dueRow wd rows i k).length ≤ k := by
  unfold dueRow
  rw [List.length_map]
  have := List.length_filter_le (noMeet wd rows i) (List.range k)
  rw [List.length_range] at this
  exact this
theorem dueUp_len {wd : Nat} {rows : List Row} (h : rows.length ≤ 16) : ∀ k : Nat, (dueUp wd rows k).length ≤ k * 16
  | 0 => Nat.le_refl _
  | k + 1 => by
    have ih := dueUp_len (wd := wd) h k
    unfold dueUp at ih ⊢
    rw [List.range_succ, List.flatMap_append, List.length_append]
    simp only [List.flatMap_cons, List.flatMap_nil, List.append_nil]
    have := dueRow_len (wd := wd) (rows := rows) (i := k) (k := rows.length)
    omega
theorem dueRow_succ {wd : Nat} {rows : List Row} {i k : Nat} : dueRow wd rows i (k + 1) = dueRow wd rows i k ++ (if noMeet wd rows i k = true then [[(i : Int), (k : Int)]] else []) := by
  unfold dueRow
  rw [List.range_succ, List.filter_append, List.map_append]
  congr 1
  by_cases h : noMeet wd rows i k = true
  · rw [if_pos h, List.filter_cons_of_pos h]
    rfl
  · rw [if_neg h, List.filter_cons_of_neg h]
    rfl
theorem dueUp_succ {wd : Nat} {rows : List Row} {k : Nat} : dueUp wd rows (k + 1) = dueUp wd rows k ++ dueRow wd rows k rows.length := by
  unfold dueUp
  rw [List.range_succ, List.flatMap_append]
  simp
theorem meet_len {wd o : Nat} {rows : List Row} (h : RowsOk wd o rows) {a b : Nat} (ha : a < rows.length) (hb : b < rows.length) {u : List Nat} (e : meetW wd rows a b = some u) : u.length ≤ 256 ∧ ∀ x ∈ u, x < (allL wd).length := by
  have k := okLot_two ha hb
  have I := lotsF_inv h k
  have hu := List.mem_of_find?_eq_some e
  refine ⟨?_, I.dig u hu⟩
  obtain ⟨j, hj, rfl⟩ := List.getElem_of_mem hu
  have h1 := I.len j _ (List.getElem?_eq_getElem hj)
  have h2 := l_card h k _ _ _ I
  have h3 : rows.length * rows.length ≤ 16 * 16 := Nat.mul_le_mul h.most h.most
  omega
theorem lw_mild {wd : Nat} {u : List Nat} (h4 : wd ≤ 4) (h : u.length ≤ 256) (hu : ∀ x ∈ u, x < (allL wd).length) : mild [256, 4] (.lst ((lw wd u).map tI)) = true := by
  refine mild_lst (by rw [List.length_map, lw, List.length_map]; exact h) fun d hd => ?_
  obtain ⟨l, hl, rfl⟩ := List.mem_map.mp hd
  obtain ⟨x, hx, rfl⟩ := List.mem_map.mp hl
  obtain ⟨h1, h2⟩ := letters_lets (ltr wd x) (ltr_mem (hu x hx))
  refine mild_tI (by omega) fun i hi => ?_
  rcases h1 i hi with rfl | rfl <;> decide
theorem exact_tIs (L : List (List Int)) : exact (.lst (L.map tI)) = true := by
  simp only [exact]
  refine exacts_all.mpr fun d hd => ?_
  obtain ⟨l, _, rfl⟩ := List.mem_map.mp hd
  exact exact_tI l
end K82
namespace K82
open PySem PySem.Spec PyProof.Rows L2 DL
/-! ### the pairs that no word brings together are the apart list -/
theorem pairsN_mem {n : Nat} {p : List Int} (h : isP n p) : p ∈ pairsN n := by
  obtain ⟨a, b, rfl, h1, h2, h3⟩ := h
  refine List.mem_flatMap.mpr ⟨a.toNat, List.mem_range.mpr (by omega), List.mem_map.mpr ⟨(b - a - 1).toNat, List.mem_range.mpr (by omega), ?_⟩⟩
  have e1 : ((a.toNat : Nat) : Int) = a := by omega
  have e2 : (((b - a - 1).toNat : Nat) : Int) = b - a - 1 := by omega
  rw [e1, e2]
  have e3 : a + 1 + (b - a - 1) = b := by omega
  rw [e3]
def never (wd : Nat) (rows : List Row) (q : Int × Int) : Prop := ∀ v : List Nat, (∀ x ∈ v, x < (allL wd).length) → eqP (prun wd rows q v) = false
theorem meet_never {wd o : Nat} {rows : List Row} (h : RowsOk wd o rows) {a b : Nat} (ha : a < rows.length) (hb : b < rows.length) (e : meetW wd rows a b = none) : never wd rows ((a : Int), (b : Int)) := fun v hv => by
  have I := lotsF_inv h (okLot_two ha hb)
  have hn := BF.Inv.never I (p := fun lot => lot.length == 1) (fun v hv => by
    have := List.find?_eq_none.mp e v hv
    cases q : (lrun wd rows (sset [(a : Int), (b : Int)]) v).length == 1 with
    | false => rfl
    | true => exact absurd q this) v hv
  have := meet_same h (a := a) (b := b) v
  rw [this]
  exact hn
theorem never_step {wd : Nat} {rows : List Row} {q : Int × Int} (h : never wd rows q) {j : Nat} (hj : j < (allL wd).length) : never wd rows (pstep wd rows q j) := fun v hv =>
  h (j :: v) fun x hx => by
    rcases List.mem_cons.mp hx with rfl | hx
    · exact hj
    · exact hv x hx
def nrm (q : Int × Int) : List Int := [mn q.1 q.2, mx q.1 q.2]
theorem nrm_lt {a b : Int} (h : a < b) : nrm (a, b) = [a, b] := by
  unfold nrm mn mx
  simp only
  rw [if_neg (by omega), if_pos h]
theorem nrm_gt {a b : Int} (h : b < a) : nrm (a, b) = [b, a] := by
  unfold nrm mn mx
  simp only
  rw [if_pos h, if_neg (by omega)]
theorem nrm_swap {a b : Int} : nrm (a, b) = nrm (b, a) := by
  rcases Int.lt_trichotomy a b with h | h | h
  · rw [nrm_lt h, nrm_gt h]
  · rw [h]
  · rw [nrm_gt h, nrm_lt h]
theorem beh_nrm {wd : Nat} {rows : List Row} {q : Int × Int} {j : Nat} : beh wd rows (nrm q) (ltr wd j) = nrm (pstep wd rows q j) := by
  obtain ⟨a, b⟩ := q
  rcases Int.lt_trichotomy a b with h | h | h
  · rw [nrm_lt h]
    rfl
  · subst h
    have : nrm (a, a) = [a, a] := by
      unfold nrm mn mx
      simp
    rw [this]
    rfl
  · rw [nrm_gt h]
    show nrm (go wd rows b (ltr wd j), go wd rows a (ltr wd j)) = _
    rw [nrm_swap]
theorem never_swap {wd : Nat} {rows : List Row} {a b : Int} (h : never wd rows (a, b)) : never wd rows (b, a) := fun v hv => by
  have key : ∀ (v : List Nat) (x y : Int), prun wd rows (y, x) v = ((prun wd rows (x, y) v).2, (prun wd rows (x, y) v).1) := by
    intro v
    induction v with
    | nil => intro x y; rfl
    | cons j v ih => intro x y; exact ih (go wd rows x (ltr wd j)) (go wd rows y (ltr wd j))
  rw [key v a b]
  have := h v hv
  unfold eqP at this ⊢
  simp only [beq_eq_false_iff_ne, ne_eq] at this ⊢
  exact fun e => this e.symm
theorem fix_keep {wd : Nat} {rows : List Row} : ∀ (k : Nat) (ps : List (List Int)), ps.length < k → ∀ p ∈ fixF wd rows k ps, keepB wd rows (fixF wd rows k ps) p = true
  | 0, ps, h => by omega
  | k + 1, ps, h => by
    show ∀ p ∈ (if (keepF wd rows ps).length < ps.length then fixF wd rows k (keepF wd rows ps) else keepF wd rows ps), keepB wd rows (if (keepF wd rows ps).length < ps.length then fixF wd rows k (keepF wd rows ps) else keepF wd rows ps) p = true
    split
    · rename_i hl
      exact fix_keep k _ (by omega)
    · rename_i hl
      have hs : (keepF wd rows ps).Sublist ps := keep_sub
      have e : keepF wd rows ps = ps := hs.eq_of_length (by have := hs.length_le; omega)
      intro p hp
      have hp2 : p ∈ keepF wd rows ps := hp
      rw [e]
      exact (List.mem_filter.mp hp2).2
theorem fix_all {wd : Nat} {rows : List Row} {Q : List Int → Prop} (hQ : ∀ p, Q p → ∀ l ∈ allL wd, Q (beh wd rows p l)) : ∀ (k : Nat) (ps : List (List Int)), (∀ p, Q p → p ∈ ps) → ∀ p, Q p → p ∈ fixF wd rows k ps
  | 0, ps, h => h
  | k + 1, ps, h => by
    have hk : ∀ p, Q p → p ∈ keepF wd rows ps := fun p hp => List.mem_filter.mpr ⟨h p hp, List.all_eq_true.mpr fun l hl => decide_eq_true (h _ (hQ p hp l hl))⟩
    show ∀ p, Q p → p ∈ (if (keepF wd rows ps).length < ps.length then fixF wd rows k (keepF wd rows ps) else keepF wd rows ps)
    split
    · exact fix_all hQ k _ hk
    · exact hk
theorem apart_sub {wd : Nat} {rows : List Row} : (apartF wd rows).Sublist (pairsN rows.length) := fixF_sub _ _
theorem ltr_of {wd : Nat} {l : List Int} (h : l ∈ allL wd) : ∃ j, j < (allL wd).length ∧ l = ltr wd j := by
  obtain ⟨j, hj, rfl⟩ := List.getElem_of_mem h
  exact ⟨j, hj, by rw [ltr, getD_lt hj]⟩
theorem apart_never {wd o : Nat} {rows : List Row} (h : RowsOk wd o rows) {q : Int × Int} (hq : nrm q ∈ apartF wd rows) : never wd rows q := by
  intro v hv
  induction v generalizing q with
  | nil =>
    obtain ⟨a, b, e, h1, h2, h3⟩ := pairsN_ok (apart_sub.subset hq)
    show (q.1 == q.2) = false
    simp only [beq_eq_false_iff_ne, ne_eq]
    intro e2
    have : nrm q = [q.1, q.2] := by
      unfold nrm mn mx
      rw [if_neg (by omega), if_neg (by omega), e2]
    rw [this] at e
    injection e with e3 e4
    injection e4 with e4 e5
    omega
  | cons j v ih =>
    have hj := hv j List.mem_cons_self
    have k := fix_keep _ (pairsN rows.length) (by omega : (pairsN rows.length).length < (pairsN rows.length).length + 1) (nrm q) hq
    have k2 := of_decide_eq_true (List.all_eq_true.mp k (ltr wd j) (ltr_mem hj))
    rw [beh_nrm] at k2
    exact ih k2 fun x hx => hv x (List.mem_cons_of_mem _ hx)
theorem never_apart {wd o : Nat} {rows : List Row} (h : RowsOk wd o rows) {q : Int × Int} (hq : inP rows.length q) (hn : never wd rows q) : nrm q ∈ apartF wd rows := by
  refine fix_all (Q := fun p => ∃ q, inP rows.length q ∧ never wd rows q ∧ p = nrm q) ?_ _ _ ?_ (nrm q) ⟨q, hq, hn, rfl⟩
  · rintro p ⟨q, h1, h2, rfl⟩ l hl
    obtain ⟨j, hj, rfl⟩ := ltr_of hl
    exact ⟨pstep wd rows q j, inP_step h hj h1, never_step h2 hj, beh_nrm⟩
  · rintro p ⟨⟨a, b⟩, h1, h2, rfl⟩
    have h3 : a ≠ b := by
      have h3 : (a == b) = false := h2 [] (fun x hx => nomatch hx)
      simpa using h3
    obtain ⟨⟨a0, a1⟩, b0, b1⟩ := h1
    have a0 : 0 ≤ a := a0
    have a1 : a < rows.length := a1
    have b0 : 0 ≤ b := b0
    have b1 : b < rows.length := b1
    rcases Int.lt_trichotomy a b with h4 | h4 | h4
    · rw [nrm_lt h4]
      exact pairsN_mem ⟨a, b, rfl, a0, h4, b1⟩
    · exact absurd h4 h3
    · rw [nrm_gt h4]
      exact pairsN_mem ⟨b, a, rfl, b0, h4, a1⟩
theorem sub_filter {α : Type} {s l : List α} (h : s.Sublist l) (hn : l.Nodup) : ∀ q : α → Bool, (∀ x ∈ l, q x = true ↔ x ∈ s) → l.filter q = s := by
  induction h with
  | slnil => exact fun _ _ => rfl
  | @cons s l x hs ih =>
    intro q hq
    obtain ⟨h1, h2⟩ := List.nodup_cons.mp hn
    have hx : ¬ q x = true := fun e => h1 (hs.subset ((hq x List.mem_cons_self).mp e))
    rw [List.filter_cons_of_neg hx]
    exact ih h2 q fun y hy => hq y (List.mem_cons_of_mem _ hy)
  | @cons_cons s l x hs ih =>
    intro q hq
    obtain ⟨h1, h2⟩ := List.nodup_cons.mp hn
    rw [List.filter_cons_of_pos ((hq x List.mem_cons_self).mpr List.mem_cons_self)]
    congr 1
    refine ih h2 q fun y hy => (hq y (List.mem_cons_of_mem _ hy)).trans ⟨fun h => ?_, List.mem_cons_of_mem _⟩
    rcases List.mem_cons.mp h with rfl | h
    · exact absurd hy h1
    · exact h
theorem due_filter {wd : Nat} {rows : List Row} : dueF wd rows = (pairsN rows.length).filter fun p => (meetW wd rows (p.getD 0 0).toNat (p.getD 1 0).toNat).isNone := by
  unfold dueF dueUp pairsN
  rw [List.filter_flatMap]
  congr 1
  funext i
  unfold dueRow
  rw [List.filter_map]
  have up : ∀ n : Nat, (List.range n).filter (noMeet wd rows i) = ((List.range (n - (i + 1))).map fun j => i + 1 + j).filter fun j => (meetW wd rows i j).isNone := by
    intro n
    induction n with
    | zero =>
      have : 0 - (i + 1) = 0 := by omega
      rw [this]
      rfl
    | succ n ih =>
      rw [List.range_succ, List.filter_append, ih]
      by_cases h : i < n
      · have e : n + 1 - (i + 1) = (n - (i + 1)) + 1 := by omega
        have e2 : i + 1 + (n - (i + 1)) = n := by omega
        rw [e, List.range_succ, List.map_append, List.filter_append]
        congr 1
        show [n].filter _ = [i + 1 + (n - (i + 1))].filter _
        rw [e2]
        unfold noMeet
        rw [List.filter_cons, List.filter_cons, decide_eq_true h, Bool.true_and, List.filter_nil, List.filter_nil]
      · have e : n + 1 - (i + 1) = n - (i + 1) := by omega
        rw [e]
        have : [n].filter (noMeet wd rows i) = [] := by
          rw [List.filter_cons_of_neg (by unfold noMeet; simp [h])]
          rfl
        rw [this, List.append_nil]
  rw [up, List.filter_map, List.map_map]
  have e1 : ((fun p : List Int => (meetW wd rows (p.getD 0 0).toNat (p.getD 1 0).toNat).isNone) ∘ fun j => [(i : Int), (i : Int) + 1 + ((j : Nat) : Int)]) = ((fun j => (meetW wd rows i j).isNone) ∘ fun j => i + 1 + j) := by
    funext j
    show (meetW wd rows (i : Int).toNat ((i : Int) + 1 + (j : Int)).toNat).isNone = (meetW wd rows i (i + 1 + j)).isNone
    have e2 : ((i : Int) + 1 + (j : Int)).toNat = i + 1 + j := by omega
    rw [e2, Int.toNat_natCast]
  rw [e1]
  refine List.map_congr_left fun j _ => ?_
  show [(i : Int), ((i + 1 + j : Nat) : Int)] = [(i : Int), (i : Int) + 1 + (j : Int)]
  have : ((i + 1 + j : Nat) : Int) = (i : Int) + 1 + (j : Int) := by omega
  rw [this]
theorem due_apart {wd o : Nat} {rows : List Row} (h : RowsOk wd o rows) : dueF wd rows = apartF wd rows := by
  rw [due_filter]
  refine sub_filter (apart_sub (wd := wd) (rows := rows)) (pairsN_nodup _) _ fun p hp => ?_
  obtain ⟨a, b, rfl, h1, h2, h3⟩ := pairsN_ok hp
  have ea : ((a.toNat : Nat) : Int) = a := by omega
  have eb : ((b.toNat : Nat) : Int) = b := by omega
  have ha : a.toNat < rows.length := by omega
  have hb : b.toNat < rows.length := by omega
  have key : (meetW wd rows a.toNat b.toNat).isNone = true ↔ [a, b] ∈ apartF wd rows := by
    constructor
    · intro q
      have := meet_never h ha hb (Option.isNone_iff_eq_none.mp q)
      rw [ea, eb] at this
      have := never_apart h (q := (a, b)) ⟨⟨h1, by show a < _; omega⟩, by show 0 ≤ b; omega, h3⟩ this
      rw [nrm_lt h2] at this
      exact this
    · intro hin
      rw [← nrm_lt h2] at hin
      have := apart_never h hin
      rw [meet_none h ha hb (by rw [ea, eb]; exact this)]
      rfl
  exact key
end K82
namespace K82
open PySem PySem.Spec PyProof.Rows L2 DL
variable {P : Program} {w : World} {K : PySem.W.Frag} {mg : Str → Option Value} {base : Heap} {C : Addr}
/-! ### TooMany -/
abbrev bmA : List Value := [.type "ArithmeticError", .type "Exception", .type "BaseException", .type "object"]
structure TooM (K : PySem.W.Frag) (mg : Str → Option Value) (C : Addr) : Prop where
  k : ExcK bmA "ArithmeticError.__new__" K C
  mgc : mg "TooMany" = some (.ref C)
  ini : ∃ fI fd, Fun K "__init__" "TooMany.__init__" s_ETooMany fI fd ∧ PySem.W.findIn K (.ref C) "__init__" = some (some (.ref fI)) ∧ PySem.W.typeIn K (.ref fI) = some (.type "function")
  bas : ∃ CL, mg "LimitError" = some (.ref CL) ∧ BaseI K CL "ArithmeticError.__init__"
  f1 : PySem.W.findIn K (.ref C) "what" = some none
  f2 : PySem.W.findIn K (.ref C) "limit" = some none
  xf : XfC K C
  exm : PySem.W.exmOne K (.ref C) (.ref C) = some true
theorem init_tm (T : TooM K mg C) {fI : Addr} {fd : FuncData} (F : Fun K "__init__" "TooMany.__init__" s_ETooMany fI fd) : FnOk P w K mg base CX0 1 fI fd p_ETooMany (SpInit C ["what", "limit"]) := by
  obtain ⟨CL, hm, BI⟩ := T.bas
  refine F.ok sc_ETooMany (fun vs H Q E h => ?_) fun cdv A outer s H vs Q E hr h => ?_
  · obtain ⟨a, ws, rfl, hl, _⟩ := h
    show (V.ref a :: ws).length = 3
    rw [List.length_cons, hl]
    rfl
  · obtain ⟨a, ws, rfl, hl, ha, q⟩ := h
    match ws, hl with
    | [y1, y2], _ =>
      refine ⟨_, pss_cons (ps_expr (pe_binit (newId := "ArithmeticError.__new__") PySem.F.excBase_ArithmeticError BI (by decide +kernel) rfl hm (pa_cons (pv 0) (pa_cons (pv 1) (pa_cons (pv 2) pa_nil))))) (pss_cons (ps_efld (newId := "ArithmeticError.__new__") PySem.F.store_ArithmeticError (pv 0) (pv 1)) (pss_one (ps_efld (newId := "ArithmeticError.__new__") PySem.F.store_ArithmeticError (pv 0) (pv 2)))), ?_⟩
      refine ⟨.ref a, rfl, y1, rfl, y2, rfl, a, C, [y1, y2], rfl, by simp, T.k, ha, y1, rfl, .ref a, rfl, a, C, rfl, T.k, T.f1, .inl ⟨ha, fun dx hdx hne => ?_⟩⟩
      have e1 : (upd (upd H dx (exd dx [("what", y1)])) a (exo a C (some dx))) dx = some (exd dx [("what", y1)]) := (upd_ne hne).trans upd_same
      refine ⟨y2, rfl, .ref a, rfl, a, C, rfl, T.k, T.f2, .inr ⟨dx, [("what", y1)], upd_same, e1, by simp, ?_⟩⟩
      refine q dx _ hdx hne ((upd_ne (Ne.symm hne)).trans upd_same) upd_same fun b hba hbd => ?_
      rw [upd_ne hbd, upd_ne hba, upd_ne hbd]
theorem tm_ok (T : TooM K mg C) : ExcOk P w K mg base "TooMany" ["what", "limit"] C := by
  obtain ⟨fI, fd, F, h1, h2⟩ := T.ini
  exact ⟨⟨bmA, _, _, _, PySem.F.excBase_ArithmeticError, T.k⟩, T.mgc, fI, fd, _, h1, h2, init_tm T F, F.binds fun _ _ _ _ _ _ us hl => match us, hl with | [_, _, _], _ => rfl⟩
end K82
namespace BF
section
variable {ν : Type} [DecidableEq ν] (step : ν → Nat → ν) (s0 : ν) (k : Nat)
/-- the search that ends behind so many and one more -/
def bfsL (most : Nat) : Nat → List (List Nat) → Nat → List (List Nat)
  | 0, L, _ => L
  | f + 1, L, i => match L[i]? with
    | none => L
    | some u => if L.length ≤ most then bfsL most f (extF step s0 u k 0 L) (i + 1) else L
variable {step s0 k} {L : List (List Nat)} {i l : Nat} {u : List Nat}
theorem bfsL_none {most f : Nat} (h : L.length ≤ i) : bfsL step s0 k most f L i = L := by
  cases f with
  | zero => rfl
  | succ f =>
    unfold bfsL
    rw [List.getElem?_eq_none h]
theorem bfsL_over {most f : Nat} (h : most < L.length) : bfsL step s0 k most f L i = L := by
  cases f with
  | zero => rfl
  | succ f =>
    unfold bfsL
    cases L[i]? with
    | none => rfl
    | some u => exact if_neg (by omega)
theorem bfsL_turn {most f : Nat} (e : L[i]? = some u) (h : L.length ≤ most) : bfsL step s0 k most (f + 1) L i = bfsL step s0 k most f (extF step s0 u k 0 L) (i + 1) := by
  show (match L[i]? with
    | none => L
    | some u => if L.length ≤ most then bfsL step s0 k most f (extF step s0 u k 0 L) (i + 1) else L) = _
  rw [e]
  exact if_pos h
theorem bfsL_inv {most : Nat} : ∀ (f : Nat) (L : List (List Nat)) (i : Nat), Inv step s0 k L i 0 → most + 1 ≤ f + i →
    ∃ i', Inv step s0 k (bfsL step s0 k most f L i) i' 0 ∧ (i' = (bfsL step s0 k most f L i).length ∨ most < (bfsL step s0 k most f L i).length)
  | 0, L, i, I, h => by
    have := I.le
    refine ⟨i, I, ?_⟩
    show i = L.length ∨ most < L.length
    omega
  | f + 1, L, i, I, h => by
    cases e : L[i]? with
    | none =>
      have h1 := List.getElem?_eq_none_iff.mp e
      rw [bfsL_none h1]
      have h2 := I.le
      exact ⟨i, I, .inl (by omega)⟩
    | some u =>
      by_cases hL : L.length ≤ most
      · rw [bfsL_turn e hL]
        obtain ⟨I2, hu2⟩ := Inv.ext (u := u) k 0 L I e (by omega)
        exact bfsL_inv f _ (i + 1) (I2.turn (List.getElem?_eq_some_iff.mp hu2).1) (by omega)
      · rw [bfsL_over (by omega)]
        exact ⟨i, I, .inr (by omega)⟩
theorem add1_len : (add1 step s0 L u l).length ≤ L.length + 1 := by
  unfold add1
  split
  · omega
  · rw [List.length_append]
    simp
end
end BF
namespace K82
open PySem PySem.Spec PyProof.Rows L2 DL
variable {P : Program} {w : World} {K : PySem.W.Frag} {mg : Str → Option Value} {base : Heap} {C : Addr}
/-! ### words_to_lots with any lot and any limit -/
structure okG (n : Nat) (lot : List Int) : Prop where
  ne : lot ≠ []
  srt : lot.Pairwise (· < ·)
  inm : inM n lot
theorem okG_next {wd o : Nat} {rows : List Row} (h : RowsOk wd o rows) {lot : List Int} {l : List Int} (hl : l ∈ allL wd) (k : okG rows.length lot) : okG rows.length (nextL wd rows lot l) := by
  refine ⟨fun e => ?_, sset_sorted _, nextL_ok h hl k.inm⟩
  obtain ⟨x, hx⟩ := List.exists_mem_of_ne_nil lot k.ne
  have : go wd rows x l ∈ nextL wd rows lot l := mem_sset.mpr (List.mem_map.mpr ⟨x, hx, rfl⟩)
  rw [e] at this
  cases this
theorem okG_run {wd o : Nat} {rows : List Row} (h : RowsOk wd o rows) : ∀ (u : List Nat) {s0 : List Int}, okG rows.length s0 → (∀ x ∈ u, x < (allL wd).length) → okG rows.length (lrun wd rows s0 u)
  | [], _, k, _ => k
  | l :: u, s0, k, hu => by
    have e : lrun wd rows s0 (l :: u) = lrun wd rows (lstep wd rows s0 l) u := rfl
    rw [e]
    exact okG_run h u (okG_next h (ltr_mem (hu l List.mem_cons_self)) k) fun x hx => hu x (List.mem_cons_of_mem _ hx)
theorem okG.len {n : Nat} {lot : List Int} (h : okG n lot) : lot.length ≤ n := sorted_len n lot h.srt h.inm
def lotsM (wd : Nat) (rows : List Row) (s0 : List Int) (most : Nat) : List (List Nat) := BF.bfsL (lstep wd rows) s0 (allL wd).length most (most + 1) [[]] 0
def R_words_to_lotsG (ds : List D) (r : Res) : Prop := ∃ (wd o : Nat) (rows : List Row) (v : D) (s0 : List Int) (most : Nat), ds = [mvD wd rows, v, .int (most : Nat)] ∧ RowsOk wd o rows ∧ sqOf v (s0.map .int) ∧ okG rows.length s0 ∧ most ≤ 5000 ∧
  r = .dat (.lkd (kOf (psF wd rows s0 (lotsM wd rows s0 most))) (vOf (psF wd rows s0 (lotsM wd rows s0 most))))
abbrev C_words_to_lotsG (P : Program) (w : World) (K : PySem.W.Frag) (mg : Str → Option Value) (base : Heap) : Prop := CE P w K mg base 2 "words_to_lots" s_words_to_lots p_words_to_lots R_words_to_lotsG
theorem g_words_to_lotsG (M : Mod K mg) (c1 : C_next_lot P w K mg base) : C_words_to_lotsG P w K mg base := by
  refine calP (k := 1) M.words_to_lots sc_words_to_lots 3 (fun ds r h => ?_) fun ds r h f cdv A outer s H hr => ?_
  · obtain ⟨wd, o, rows, v, s0, most, rfl, _⟩ := h
    rfl
  · obtain ⟨wd, o, rows, v, s0, most, rfl, hR, hv, hs0, hmo, rfl⟩ := h
    have hn := hR.most
    have hal : (allL wd).length ≤ 16 := by
      have := hR.w4
      have : ((List.range 5).all fun w => decide ((allL w).length ≤ 16)) = true := by decide +kernel
      exact of_decide_eq_true (List.all_eq_true.mp this wd (List.mem_range.mpr (by omega)))
    let st : List (List Nat) → Nat → Option U → Option U → Option U → DSt := fun L i t1 t2 t3 => ⟨[some (.dat (mvD wd rows)), some (.dat v), some (.dat (.int (most : Nat))), some (.own 1), some (.own 2), t1, t2, t3], [none, some (.pd (psF wd rows s0 L)), some (.lst (wD wd rows s0 L i))]⟩
    refine ex_cons (ds_set (i := 3) (de_disp1 hr.u1 (de_tupleS M.blt.tuple (de_var 1 rfl) hv) (de_lst da_nil (.dl _)) (.ow 1 _ (by decide) rfl)) sc_words_to_lots.nd) ?_
    refine ex_cons (ds_set (i := 4) (de_lst (da_cons (de_tupleS M.blt.tuple (de_var 1 rfl) hv) da_nil) (.ow 2 _ (by decide) rfl)) sc_words_to_lots.nd) ?_
    refine ex_while (fun n S => ∃ L i t1 t2 t3, S = st L i t1 t2 t3 ∧ LInv wd rows s0 L i 0 ∧ n + i = most + 1 ∧ L.length ≤ most + 16 ∧ BF.bfsL (lstep wd rows) s0 (allL wd).length most n L i = lotsM wd rows s0 most) (n := most + 1) ⟨[[]], 0, none, none, none, rfl, BF.inv_start _ _ _, rfl, by simp, rfl⟩ ?_
    rintro n S ⟨L, i, t1, t2, t3, rfl, I, hni, hLB, hbfs⟩
    have hiL := I.le
    have hps : (psF wd rows s0 L).length = L.length := by rw [psF, List.length_map]
    cases e : L[i]? with
    | none =>
      have h1 := List.getElem?_eq_none_iff.mp e
      left
      have hemp : wD wd rows s0 L i = [] := by rw [wD, List.drop_eq_nil_of_le h1]; rfl
      refine ⟨_, DW.dt (dw_andF (dt_to (dt_neNil hr.u64 (de_var 4 rfl) (.lst rfl) good_wD) (by rw [hemp]; rfl))), ?_⟩
      rw [BF.bfsL_none h1] at hbfs
      rw [← hbfs]
      exact runs_retLk (de_var 3 rfl) rfl
    | some u =>
      obtain ⟨hi, hu⟩ := List.getElem?_eq_some_iff.mp e
      have hw := wD_at (wd := wd) (rows := rows) (s0 := s0) e
      by_cases hlm' : most < L.length
      · left
        refine ⟨_, DW.dt (dw_andT (dt_to (dt_neNil hr.u64 (de_var 4 rfl) (.lst rfl) good_wD) (by rw [hw]; rfl)) (dw_and1 (dt_to (dt_leI (de_lenD M.blt.len (de_var 3 rfl) (.own rfl)) (de_var 2 rfl)) (by rw [hps]; simp; omega)))), ?_⟩
        rw [BF.bfsL_over (by omega)] at hbfs
        rw [← hbfs]
        exact runs_retLk (de_var 3 rfl) rfl
      have hlm : L.length ≤ most := by omega
      right
      refine ⟨_, DW.dt (dw_andT (dt_to (dt_neNil hr.u64 (de_var 4 rfl) (.lst rfl) good_wD) (by rw [hw]; rfl)) (dw_and1 (dt_to (dt_leI (de_lenD M.blt.len (de_var 3 rfl) (.own rfl)) (de_var 2 rfl)) (by rw [hps]; simp; omega)))), ?_⟩
      have hwz : (wD wd rows s0 L i).length ≤ 1000000 := by rw [wD, List.length_map, List.length_drop]; omega
      refine ex_cons (ds_set (i := 5) (de_popAt (n := 2) (d := tI (lrun wd rows s0 u)) (de_var 4 rfl) de_int rfl rfl (by decide) (by rw [hw]; rfl) hwz) sc_words_to_lots.nd) ?_
      have hw2 : (wD wd rows s0 L i).eraseIdx (0 : Int).toNat = wD wd rows s0 L (i + 1) := by rw [hw]; rfl
      rw [hw2]
      refine ex_for (T := .one 6) (fun ds S => ∃ L' l t2 t3, ds = ((allL wd).drop l).map tI ∧ S = ⟨[some (.dat (mvD wd rows)), some (.dat v), some (.dat (.int (most : Nat))), some (.own 1), some (.own 2), some (.dat (tI (lrun wd rows s0 u))), t2, t3], [none, some (.pd (psF wd rows s0 L')), some (.lst (wD wd rows s0 L' (i + 1)))]⟩ ∧
        LInv wd rows s0 L' i l ∧ L'[i]? = some u ∧ l ≤ (allL wd).length ∧ L'.length ≤ most + l ∧ BF.extF (lstep wd rows) s0 u ((allL wd).length - l) l L' = BF.extF (lstep wd rows) s0 u (allL wd).length 0 L) (ds := (allL wd).map tI) rfl (di_mv (de_var 0 rfl)) (pg_name sc_words_to_lots.nd rfl (.inl rfl)) ⟨L, 0, t2, t3, rfl, rfl, I, e, Nat.zero_le _, hlm, rfl⟩ ?_ ?_
      · rintro d rest S ⟨L', l, t2, t3, e1, rfl, I', hu', hl', hLB', hext⟩
        obtain ⟨hl, rfl, rfl⟩ := drop_ltr e1
        have hz := okG_run hR u hs0 (I'.dig u (List.mem_of_getElem? hu'))
        have hnx : nextL wd rows (lrun wd rows s0 u) (ltr wd l) = lrun wd rows s0 (u ++ [l]) := by
          unfold lrun
          rw [BF.run_snoc]
        have hps' : (psF wd rows s0 L').length = L'.length := by rw [psF, List.length_map]
        have hext2 : BF.extF (lstep wd rows) s0 u ((allL wd).length - (l + 1)) (l + 1) (BF.add1 (lstep wd rows) s0 L' u l) = BF.extF (lstep wd rows) s0 u (allL wd).length 0 L := by
          rw [← hext]
          have : (allL wd).length - l = ((allL wd).length - (l + 1)) + 1 := by omega
          rw [this]
          rfl
        have I2 := I'.add1 hu' hl
        have hu2 := BF.add1_at (step := lstep wd rows) (s0 := s0) (l := l) hu'
        have hl2 := BF.add1_len (step := lstep wd rows) (s0 := s0) (L := L') (u := u) (l := l)
        refine ⟨_, rfl, ex_cons (ds_set (i := 7) (de_tupleL M.blt.tuple (de_cP c1 hr (da_cons (de_var 0 rfl) (da_cons (de_var 5 rfl) (da_cons (de_var 6 rfl) da_nil))) ⟨wd, o, rows, _, lrun wd rows s0 u, ltr wd l, rfl, hR, .inr rfl, ltr_mem hl, hz.inm, by have := hz.len; omega, rfl⟩ (.new (.dl _))) (.dat _)) sc_words_to_lots.nd) ?_⟩
        rw [hnx]
        rcases Classical.em (lrun wd rows s0 (u ++ [l]) ∈ L'.map (lrun wd rows s0)) with hin | hin
        · have hadd : BF.add1 (lstep wd rows) s0 L' u l = L' := BF.add1_old hin
          rw [hadd] at hext2 I2
          have hv2 : (val (psF wd rows s0 L') (lrun wd rows s0 (u ++ [l]))).isSome = true := by
            exact val_some.mpr (by rw [psF_keys]; exact hin)
          refine ex_ifN (dt_to (dt_dnotin hr.u1 (de_var 7 rfl) (de_var 3 rfl) (.own rfl)) (by rw [hv2]; rfl)) (ex_nil ⟨L', l + 1, _, _, rfl, rfl, I2, hu', hl, by omega, hext2⟩)
        · have hadd : BF.add1 (lstep wd rows) s0 L' u l = L' ++ [u ++ [l]] := BF.add1_new hin
          rw [hadd] at hext2 I2 hu2 hl2
          have hv2 : (val (psF wd rows s0 L') (lrun wd rows s0 (u ++ [l]))).isSome = false := by
            cases q : (val (psF wd rows s0 L') (lrun wd rows s0 (u ++ [l]))).isSome with
            | false => rfl
            | true =>
              have := val_some.mp q
              rw [psF_keys] at this
              exact absurd this hin
          have hv3 := psF_val (wd := wd) (rows := rows) (s0 := s0) I'.dist (List.mem_of_getElem? hu')
          have hlen : (lw wd u).length ≤ 10000 := by
            have := I'.len i u hu'
            rw [lw, List.length_map]
            omega
          refine ex_ifT (dt_to (dt_dnotin hr.u1 (de_var 7 rfl) (de_var 3 rfl) (.own rfl)) (by rw [hv2]; rfl)) ?_
          refine ex_cons (ds_dput (n := 1) hr.u1 (de_cat (de_dget hr.u1 (de_var 3 rfl) (de_var 5 rfl) (.own rfl) hv3) (de_lst (da_cons (de_var 6 rfl) da_nil) (.dl _)) (.dat _) (.dat _) (by rw [List.length_map]; simp; omega) (.dl _)) (de_var 3 rfl) (de_var 7 rfl) rfl (by rw [hps']; omega)) ?_
          have hput : put (psF wd rows s0 L') (lrun wd rows s0 (u ++ [l])) (.lst ((lw wd u).map tI ++ [tI (ltr wd l)])) = psF wd rows s0 (L' ++ [u ++ [l]]) := by
            rw [put_new (by rw [psF_keys]; exact hin), psF_snoc, lw_snoc, List.map_append]
            rfl
          rw [hput]
          have hw3 : (wD wd rows s0 L' (i + 1)).length ≤ 1000000 := by rw [wD, List.length_map, List.length_drop]; omega
          refine ex_cons (ds_expr (de_append (n := 2) (de_var 4 rfl) (de_var 7 rfl) rfl rfl hw3)) (ex_nil (ex_nil ?_))
          refine ⟨L' ++ [u ++ [l]], l + 1, some (.dat (tI (ltr wd l))), some (.dat (tI (lrun wd rows s0 (u ++ [l])))), rfl, ?_, I2, hu2, hl, by omega, hext2⟩
          rw [wD_snoc (List.getElem?_eq_some_iff.mp hu').1]
          rfl
      · rintro S ⟨L', l, t2, t3, e1, rfl, I', hu', hl', hLB', hext⟩
        have hlk : l = (allL wd).length := by
          have := congrArg List.length e1
          rw [List.length_nil, List.length_map, List.length_drop] at this
          omega
        subst hlk
        rw [Nat.sub_self] at hext
        refine ex_nil ⟨n - 1, by omega, L', i + 1, _, t2, t3, rfl, I'.turn (List.getElem?_eq_some_iff.mp hu').1, by omega, by omega, ?_⟩
        rw [← hbfs]
        obtain ⟨n', rfl⟩ : ∃ j, n = j + 1 := ⟨n - 1, by omega⟩
        rw [BF.bfsL_turn e hlm, ← hext]
        rfl
end K82
namespace K82
open PySem PySem.Spec PyProof.Rows L2 DL
variable {P : Program} {w : World} {K : PySem.W.Frag} {mg : Str → Option Value} {base : Heap} {C : Addr}
/-! ### bits, letters, words: any value -/
def isBit : D → Bool
  | .int i => decide (0 ≤ i) && decide (i ≤ 1)
  | _ => false
def isLetD (wd : Nat) : D → Bool
  | .tup es => decide (es.length = wd) && es.all isBit
  | _ => false
def isWdD (wd : Nat) : D → Bool
  | .lst es => es.all (isLetD wd)
  | .tup es => es.all (isLetD wd)
  | _ => false
structure okE (d : D) : Prop where
  ok : okD d
  mem : ∀ es, d = .tup es → es.length ≤ 100000 ∧ ∀ e ∈ es, okD e
structure okWd (v : D) : Prop where
  ok : okD v
  nr : ∀ ds, v ≠ .rol ds
  mem : ∀ ds, sqOf v ds → ds.length ≤ 100000 ∧ ∀ d ∈ ds, okE d
def R_is_bitV (ds : List D) (r : Res) : Prop := ∃ d, ds = [d] ∧ okD d ∧ r = .dat (.bl (isBit d))
abbrev C_is_bitV (P : Program) (w : World) (K : PySem.W.Frag) (mg : Str → Option Value) (base : Heap) : Prop := CE P w K mg base 2 "is_bit" s_is_bit p_is_bit R_is_bitV
theorem g_is_bitV (M : Mod K mg) (c1 : C_is_integer P w K mg base) : C_is_bitV P w K mg base := by
  refine calP M.is_bit sc_is_bit 0 (fun ds r h => ?_) fun ds r h f cdv A outer s H hr => ?_
  · obtain ⟨d, rfl, _⟩ := h
    rfl
  · obtain ⟨d, rfl, hd, rfl⟩ := h
    cases h1 : isInt d with
    | false =>
      have e : isBit d = false := by cases d <;> first | rfl | cases h1
      rw [e]
      exact runs_ret (de_andF (by rw [← h1]; exact de_cP c1 hr (da_cons (de_var 0 rfl) da_nil) ⟨d, rfl, hd, rfl⟩ (.dat _))) .dat
    | true =>
      obtain ⟨i, rfl⟩ : ∃ i, d = .int i := by cases d <;> first | exact ⟨_, rfl⟩ | cases h1
      exact runs_ret (de_andT (de_cP c1 hr (da_cons (de_var 0 rfl) da_nil) ⟨.int i, rfl, ok_int, rfl⟩ (.dat _)) (de_one (de_to (de_chainLe (i := 0) (j := i) (k := 1) de_int (de_var 0 rfl) de_int) rfl))) .dat
def R_is_letterV (ds : List D) (r : Res) : Prop := ∃ (d : D) (wd : Nat), ds = [d, .int wd] ∧ okE d ∧ r = .dat (.bl (isLetD wd d))
abbrev C_is_letterV (P : Program) (w : World) (K : PySem.W.Frag) (mg : Str → Option Value) (base : Heap) : Prop := CE P w K mg base 3 "is_letter" s_is_letter p_is_letter R_is_letterV
theorem g_is_letterV (M : Mod K mg) (c1 : C_is_bitV P w K mg base) : C_is_letterV P w K mg base := by
  refine calP M.is_letter sc_is_letter 0 (fun ds r h => ?_) fun ds r h f cdv A outer s H hr => ?_
  · obtain ⟨d, wd, rfl, _⟩ := h
    rfl
  · obtain ⟨d, wd, rfl, hd, rfl⟩ := h
    cases h1 : isiT (tyN d) "tuple" with
    | false =>
      have e : isLetD wd d = false := by cases d <;> first | rfl | cases h1
      rw [e]
      exact runs_ret (de_andF (by rw [← h1]; exact de_isi M.blt.isinstance (de_var 0 rfl) (de_bltn M.blt.tuple PyProof.Rows.boot_tuple) (.dat _) hd.ok)) .dat
    | true =>
      obtain ⟨es, rfl⟩ : ∃ es, d = .tup es := by
        cases d with
        | tup es => exact ⟨_, rfl⟩
        | ins _ _ _ => exact absurd rfl hd.ok
        | ty _ => exact absurd rfl hd.ok
        | exc _ _ _ _ => exact absurd rfl hd.ok
        | _ => cases h1
      obtain ⟨hz, he⟩ := hd.mem es rfl
      by_cases h2 : es.length = wd
      · have e : isLetD wd (.tup es) = es.all isBit := by simp [isLetD, h2]
        rw [e]
        refine runs_ret (de_andT (by rw [← h1]; exact de_isi M.blt.isinstance (de_var 0 rfl) (de_bltn M.blt.tuple PyProof.Rows.boot_tuple) (.dat _) ok_tup)
          (de_andT (de_to (de_eqI (de_len M.blt.len (de_var 0 rfl) (.tup _)) (de_var 1 rfl)) (by simp [h2]))
            (de_one (de_allLc [("bit", 2)] (T := .one 2) isBit rfl M.blt.all sc_is_letter.nd (di_tup (de_var 0 rfl)) (blkOk_by (N := n_is_letter) (sc := defScope s_is_letter) (by decide +kernel)) rfl (fun _ _ _ _ _ => pg_name sc_is_letter.nd rfl (.inl rfl)) (fun d hd => ?_) (by omega))))) .dat
        exact ⟨_, _, rfl, fun _ _ _ _ _ => de_cP c1 hr (da_cons (de_var 2 rfl) da_nil) ⟨d, rfl, he d hd, rfl⟩ (.dat _), rfl⟩
      · have e : isLetD wd (.tup es) = false := by simp [isLetD, h2]
        rw [e]
        exact runs_ret (de_andT (by rw [← h1]; exact de_isi M.blt.isinstance (de_var 0 rfl) (de_bltn M.blt.tuple PyProof.Rows.boot_tuple) (.dat _) ok_tup)
          (de_andF (de_to (de_eqI (de_len M.blt.len (de_var 0 rfl) (.tup _)) (de_var 1 rfl)) (by simp; omega)))) .dat
def R_is_wordV (ds : List D) (r : Res) : Prop := ∃ (v : D) (wd : Nat), ds = [v, .int wd] ∧ okWd v ∧ r = .dat (.bl (isWdD wd v))
abbrev C_is_wordV (P : Program) (w : World) (K : PySem.W.Frag) (mg : Str → Option Value) (base : Heap) : Prop := CE P w K mg base 4 "is_word" s_is_word p_is_word R_is_wordV
theorem g_is_wordV (M : Mod K mg) (c1 : C_is_list P w K mg base) (c2 : C_is_letterV P w K mg base) : C_is_wordV P w K mg base := by
  refine calP M.is_word sc_is_word 0 (fun ds r h => ?_) fun ds r h f cdv A outer s H hr => ?_
  · obtain ⟨v, wd, rfl, _⟩ := h
    rfl
  · obtain ⟨v, wd, rfl, hv, rfl⟩ := h
    cases h1 : isSq v with
    | false =>
      have e : isWdD wd v = false := by cases v <;> first | rfl | cases h1
      rw [e]
      exact runs_ret (de_andF (by rw [← h1]; exact de_cP c1 hr (da_cons (de_var 0 rfl) da_nil) ⟨v, rfl, hv.ok, rfl⟩ (.dat _))) .dat
    | true =>
      obtain ⟨es, hs⟩ : ∃ es, sqOf v es := by
        cases v with
        | lst es => exact ⟨es, .inl rfl⟩
        | tup es => exact ⟨es, .inr rfl⟩
        | rol es => exact absurd rfl (hv.nr es)
        | _ => cases h1
      have e : isWdD wd v = es.all (isLetD wd) := by rcases hs with rfl | rfl <;> rfl
      obtain ⟨hz, he⟩ := hv.mem es hs
      rw [e]
      refine runs_ret (de_andT (by rw [← h1]; exact de_cP c1 hr (da_cons (de_var 0 rfl) da_nil) ⟨v, rfl, hv.ok, rfl⟩ (.dat _))
        (de_one (de_allLc [("letter", 2)] (T := .one 2) (isLetD wd) rfl M.blt.all sc_is_word.nd (di_sq (de_var 0 rfl) hs) (blkOk_by (N := n_is_word) (sc := defScope s_is_word) (by decide +kernel)) rfl (fun _ _ _ _ _ => pg_name sc_is_word.nd rfl (.inl rfl)) (fun d hd => ?_) (by omega)))) .dat
      exact ⟨_, _, rfl, fun _ _ _ _ _ => de_cP c2 hr (da_cons (de_var 2 rfl) (da_cons (de_var 1 rfl) da_nil)) ⟨d, wd, rfl, he d hd, rfl⟩ (.dat _), rfl⟩
/-! ### all_states -/
def allS (n : Nat) : List Int := (List.range n).map fun (i : Nat) => (i : Int)
theorem rng_allS (n : Nat) : rngN n = (allS n).map .int := by
  unfold rngN allS
  rw [List.map_map]
  rfl
theorem allS_len (n : Nat) : (allS n).length = n := by simp [allS]
theorem allS_mem {n : Nat} {s : Int} : s ∈ allS n ↔ 0 ≤ s ∧ s < n := by
  unfold allS
  rw [List.mem_map]
  constructor
  · rintro ⟨i, hi, rfl⟩
    have := List.mem_range.mp hi
    omega
  · rintro ⟨h1, h2⟩
    exact ⟨s.toNat, List.mem_range.mpr (by omega), by omega⟩
theorem allS_srt (n : Nat) : (allS n).Pairwise (· < ·) := by
  unfold allS
  refine List.pairwise_map.mpr (List.pairwise_lt_range.imp ?_)
  intro a b h
  omega
theorem okG_all {n : Nat} (h : 0 < n) : okG n (allS n) := by
  refine ⟨fun e => ?_, allS_srt n, fun s hs => allS_mem.mp hs⟩
  have := congrArg List.length e
  rw [allS_len] at this
  simp at this
  omega
def R_all_states (C : Addr) (ds : List D) (r : Res) : Prop := ∃ (wd o : Nat) (rows : List Row), ds = [macD C wd o rows] ∧ rows.length ≤ 16 ∧ r = .new ((allS rows.length).map .int)
abbrev C_all_states (P : Program) (w : World) (K : PySem.W.Frag) (mg : Str → Option Value) (base : Heap) (C : Addr) : Prop := CE P w K mg base 3 "all_states" s_all_states p_all_states (R_all_states C)
theorem g_all_states (M : Mod K mg) (MC : Mac K mg C) : C_all_states P w K mg base C := by
  refine calP (k := 2) M.all_states sc_all_states 2 (fun ds r h => ?_) fun ds r h f cdv A outer s H hr => ?_
  · obtain ⟨wd, o, rows, rfl, _⟩ := h
    rfl
  · obtain ⟨wd, o, rows, rfl, hn, rfl⟩ := h
    obtain ⟨g, gd, hF, hm, hbd⟩ := MC.len
    rw [← rng_allS]
    exact runs_ret (de_listRg rfl M.blt.list M.blt.range (de_lenC (de_var 0 rfl) hm.at_ hm.fn (g_Clen M MC hF) hbd (hr.mono (by decide)) ⟨wd, o, rows, rfl, rfl⟩ (by omega) M.blt.len) (by omega) (.ow 1 _ (by decide) rfl)) (.new (by decide) rfl)
/-! ### reset -/
abbrev lotsR (wd : Nat) (rows : List Row) : List (List Nat) := lotsM wd rows (allS rows.length) 2000
def resetW (wd : Nat) (rows : List Row) : Option (List Nat) := (lotsR wd rows).find? (oneL wd rows (allS rows.length))
def R_reset (C : Addr) (ds : List D) (r : Res) : Prop := ∃ (wd o : Nat) (rows : List Row), ds = [macD C wd o rows] ∧ RowsOk wd o rows ∧ 0 < rows.length ∧ (lotsR wd rows).length ≤ 2000 ∧ r = wordR wd (resetW wd rows)
abbrev C_reset (P : Program) (w : World) (K : PySem.W.Frag) (mg : Str → Option Value) (base : Heap) (C : Addr) : Prop := CE P w K mg base 5 "reset" s_reset p_reset (R_reset C)
theorem g_reset (M : Mod K mg) (hM : ∃ t, mg "MOST_LOTS" = some (.int 2000 t)) (c1 : C_want_few_states P w K mg base C) (c2 : C_moves_of P w K mg base C) (c3 : C_all_states P w K mg base C) (c4 : C_words_to_lotsG P w K mg base) (c5 : C_word_together P w K mg base) : C_reset P w K mg base C := by
  refine calP (k := 4) M.reset sc_reset 2 (fun ds r h => ?_) fun ds r h f cdv A outer s H hr => ?_
  · obtain ⟨wd, o, rows, rfl, _⟩ := h
    rfl
  · obtain ⟨wd, o, rows, rfl, hR, h0, hz, rfl⟩ := h
    obtain ⟨t, hM⟩ := hM
    have hps : (psF wd rows (allS rows.length) (lotsR wd rows)).length = (lotsR wd rows).length := by rw [psF, List.length_map]
    obtain ⟨z, S', h1, h2⟩ := wordR_made (wd := wd) (x := resetW wd rows) (S := ⟨[some (.dat (macD C wd o rows)), some (.dat (.lkd (kOf (psF wd rows (allS rows.length) (lotsR wd rows))) (vOf (psF wd rows (allS rows.length) (lotsR wd rows)))))], [none, none]⟩) rfl
    refine Ex.runs (ex_cons (ds_expr (de_cP c1 hr (da_cons (de_var 0 rfl) da_nil) ⟨wd, o, rows, rfl, hR.most, rfl⟩ (.dat _))) ?_)
    refine ex_cons (ds_set (i := 1) (de_cP c4 hr (da_cons (de_cP c2 hr (da_cons (de_var 0 rfl) da_nil) ⟨wd, o, rows, rfl, hR, rfl⟩ (.dat _)) (by exact da_cons (de_cP c3 hr (da_cons (de_var 0 rfl) da_nil) ⟨wd, o, rows, rfl, hR.most, rfl⟩ (.new (.dl _))) (da_cons (de_globI rfl hM) da_nil))) ⟨wd, o, rows, _, allS rows.length, 2000, rfl, hR, .inl rfl, okG_all h0, by decide, rfl⟩ (.dat _)) sc_reset.nd) ?_
    refine ex_ifN (dt_to (dt_gtI (de_lenD M.blt.len (de_var 1 rfl) (.lkd _)) (de_globI rfl hM)) (by rw [hps]; simp; omega)) ?_
    exact ex_ret (de_cP c5 hr (da_cons (de_var 1 rfl) da_nil) ⟨wd, rows, allS rows.length, lotsR wd rows, rfl, by omega, rfl⟩ h1) h2
/-- behind too many lots -/
def X_reset (C C0 : Addr) (ds : List D) (Cx : Addr) (ns : List Str) (fs : List D) : Prop := ∃ (wd o : Nat) (rows : List Row), ds = [macD C wd o rows] ∧ RowsOk wd o rows ∧ 0 < rows.length ∧ 2000 < (lotsR wd rows).length ∧ Cx = C0 ∧ ns = [("limit" : Str), "what"] ∧ fs = [.int 2000, .str "lots"]
abbrev E_reset (P : Program) (w : World) (K : PySem.W.Frag) (mg : Str → Option Value) (base : Heap) (C C0 : Addr) : Prop := CalX P w K mg base 5 "reset" s_reset p_reset (SpXP K (X_reset C C0))
theorem e_reset {C0 : Addr} (M : Mod K mg) (T : TooM K mg C0) (hM : ∃ t, mg "MOST_LOTS" = some (.int 2000 t)) (c1 : C_want_few_states P w K mg base C) (c2 : C_moves_of P w K mg base C) (c3 : C_all_states P w K mg base C) (c4 : C_words_to_lotsG P w K mg base) : E_reset P w K mg base C C0 := by
  refine calX (k := 4) M.reset sc_reset 2 (fun ds Cx ns fs h => ?_) fun ds Cx ns fs h f cdv A outer s H E hr => ?_
  · obtain ⟨wd, o, rows, rfl, _⟩ := h
    rfl
  · obtain ⟨wd, o, rows, rfl, hR, h0, hz, rfl, rfl, rfl⟩ := h
    obtain ⟨t, hM⟩ := hM
    have hps : (psF wd rows (allS rows.length) (lotsR wd rows)).length = (lotsR wd rows).length := by rw [psF, List.length_map]
    refine ⟨⟨[some (.dat (macD C wd o rows)), some (.dat (.lkd (kOf (psF wd rows (allS rows.length) (lotsR wd rows))) (vOf (psF wd rows (allS rows.length) (lotsR wd rows)))))], [none, none]⟩, dx_cons (ds_expr (de_cP c1 hr (da_cons (de_var 0 rfl) da_nil) ⟨wd, o, rows, rfl, hR.most, rfl⟩ (.dat _))) ?_⟩
    refine dx_cons (ds_set (i := 1) (de_cP c4 hr (da_cons (de_cP c2 hr (da_cons (de_var 0 rfl) da_nil) ⟨wd, o, rows, rfl, hR, rfl⟩ (.dat _)) (by exact da_cons (de_cP c3 hr (da_cons (de_var 0 rfl) da_nil) ⟨wd, o, rows, rfl, hR.most, rfl⟩ (.new (.dl _))) (da_cons (de_globI rfl hM) da_nil))) ⟨wd, o, rows, _, allS rows.length, 2000, rfl, hR, .inl rfl, okG_all h0, by decide, rfl⟩ (.dat _)) sc_reset.nd) ?_
    refine dx_here ?_
    refine dx_ifT (dt_to (dt_gtI (de_lenD M.blt.len (de_var 1 rfl) (.lkd _)) (de_globI rfl hM)) (by rw [hps]; simp; omega)) ?_
    refine dx_here ?_
    exact dx_raise (tm_ok T) (hr.mono (by decide)) rfl (da_cons de_str (da_cons (de_globI rfl hM) da_nil))
end K82
namespace K82
open PySem PySem.Spec PyProof.Rows L2 DL
variable {P : Program} {w : World} {K : PySem.W.Frag} {mg : Str → Option Value} {base : Heap} {C : Addr}
/-! ### states by words -/
def srun (wd : Nat) (rows : List Row) (s : Int) (u : List Nat) : Int := u.foldl (fun s j => go wd rows s (ltr wd j)) s
theorem mem_lrun {wd : Nat} {rows : List Row} : ∀ (u : List Nat) (lot : List Int) (x : Int), x ∈ lrun wd rows lot u ↔ ∃ s ∈ lot, srun wd rows s u = x
  | [], lot, x => ⟨fun h => ⟨x, h, rfl⟩, fun ⟨s, h, e⟩ => by rw [← e]; exact h⟩
  | j :: u, lot, x => by
    have e : lrun wd rows lot (j :: u) = lrun wd rows (lstep wd rows lot j) u := rfl
    rw [e, mem_lrun u]
    constructor
    · rintro ⟨s, h1, h2⟩
      obtain ⟨t, h3, rfl⟩ := List.mem_map.mp (mem_sset.mp h1)
      exact ⟨t, h3, h2⟩
    · rintro ⟨s, h1, h2⟩
      exact ⟨go wd rows s (ltr wd j), mem_sset.mpr (List.mem_map.mpr ⟨s, h1, rfl⟩), h2⟩
theorem prun_srun {wd : Nat} {rows : List Row} : ∀ (u : List Nat) (q : Int × Int), prun wd rows q u = (srun wd rows q.1 u, srun wd rows q.2 u)
  | [], q => rfl
  | j :: u, q => prun_srun u (pstep wd rows q j)
theorem srun_app {wd : Nat} {rows : List Row} {s : Int} {u v : List Nat} : srun wd rows s (u ++ v) = srun wd rows (srun wd rows s u) v := by
  unfold srun
  rw [List.foldl_append]
theorem meet_srun {wd o : Nat} {rows : List Row} (h : RowsOk wd o rows) {a b : Nat} {u : List Nat} (e : meetW wd rows a b = some u) : srun wd rows a u = srun wd rows b u := by
  have h1 : oneL wd rows (sset [(a : Int), (b : Int)]) u = true := by simpa using List.find?_some e
  rw [← meet_same h, prun_srun] at h1
  simpa [eqP] using h1
theorem ledL_lrun {wd : Nat} {rows : List Row} : ∀ (u : List Nat) (lot : List Int), ledL wd rows lot (lw wd u) = lrun wd rows lot u
  | [], _ => rfl
  | j :: u, lot => ledL_lrun u (lstep wd rows lot j)
theorem lw_app (wd : Nat) (u v : List Nat) : lw wd (u ++ v) = lw wd u ++ lw wd v := by
  unfold lw
  rw [List.map_append]
theorem lw_in {wd : Nat} {u : List Nat} (h : ∀ x ∈ u, x < (allL wd).length) : ∀ l ∈ lw wd u, l ∈ allL wd := fun l hl => by
  obtain ⟨x, hx, rfl⟩ := List.mem_map.mp hl
  exact ltr_mem (h x hx)
/-- two states of a lot that meet: the lot gets shorter -/
theorem lot_less {wd o : Nat} {rows : List Row} (h : RowsOk wd o rows) {a b : Int} {rest : List Int} {u : List Nat} (k : okG rows.length (a :: b :: rest)) (hu : ∀ x ∈ u, x < (allL wd).length) (e : srun wd rows a u = srun wd rows b u) : (lrun wd rows (a :: b :: rest) u).length < (a :: b :: rest).length := by
  have k2 := okG_run h u k hu
  have h1 : (lrun wd rows (a :: b :: rest) u).Nodup := k2.srt.imp fun {x y} hab => by omega
  have := nodup_len h1 (b := (b :: rest).map fun s => srun wd rows s u) fun x hx => by
    obtain ⟨s, hs, rfl⟩ := (mem_lrun u _ x).mp hx
    rcases List.mem_cons.mp hs with rfl | hs
    · rw [e]
      exact List.mem_map.mpr ⟨b, List.mem_cons_self, rfl⟩
    · exact List.mem_map.mpr ⟨s, hs, rfl⟩
  rw [List.length_map] at this
  simp only [List.length_cons] at this ⊢
  omega
/-! ### any_reset -/
def anyF (wd : Nat) (rows : List Row) : Nat → List Int → List Nat → Option (List Nat)
  | 0, _, acc => some acc
  | f + 1, lot, acc => if lot.length ≤ 1 then some acc else match meetW wd rows (lot.getD 0 0).toNat (lot.getD 1 0).toNat with
    | none => none
    | some u => anyF wd rows f (lrun wd rows lot u) (acc ++ u)
def anyW (wd : Nat) (rows : List Row) : Option (List Nat) := anyF wd rows rows.length (allS rows.length) []
theorem anyF_one {wd : Nat} {rows : List Row} {f : Nat} {lot : List Int} {acc : List Nat} (h : lot.length ≤ 1) : anyF wd rows f lot acc = some acc := by
  cases f with
  | zero => rfl
  | succ f => exact if_pos h
theorem anyF_turn {wd : Nat} {rows : List Row} {f : Nat} {a b : Int} {rest : List Int} {acc : List Nat} : anyF wd rows (f + 1) (a :: b :: rest) acc = match meetW wd rows a.toNat b.toNat with
    | none => none
    | some u => anyF wd rows f (lrun wd rows (a :: b :: rest) u) (acc ++ u) := if_neg (by simp)
def R_any_reset (C : Addr) (ds : List D) (r : Res) : Prop := ∃ (wd o : Nat) (rows : List Row), ds = [macD C wd o rows] ∧ RowsOk wd o rows ∧ 0 < rows.length ∧ r = wordR wd (anyW wd rows)
abbrev C_any_reset (P : Program) (w : World) (K : PySem.W.Frag) (mg : Str → Option Value) (base : Heap) (C : Addr) : Prop := CE P w K mg base 5 "any_reset" s_any_reset p_any_reset (R_any_reset C)
theorem g_any_reset (M : Mod K mg) (c1 : C_want_few_states P w K mg base C) (c2 : C_moves_of P w K mg base C) (c3 : C_all_states P w K mg base C) (c4 : C_meeting_by P w K mg base C) (c5 : C_led_by P w K mg base) : C_any_reset P w K mg base C := by
  refine calP (k := 4) M.any_reset sc_any_reset 2 (fun ds r h => ?_) fun ds r h f cdv A outer s H hr => ?_
  · obtain ⟨wd, o, rows, rfl, _⟩ := h
    rfl
  · obtain ⟨wd, o, rows, rfl, hR, h0, rfl⟩ := h
    have hn := hR.most
    let st : List Int → List Nat → Option U → DSt := fun lot acc t => ⟨[some (.dat (macD C wd o rows)), some (.dat (mvD wd rows)), some (.dat (.lst (lot.map .int))), some (.own 1), t], [none, some (.lst ((lw wd acc).map tI))]⟩
    refine Ex.runs (ex_cons (ds_expr (de_cP c1 hr (da_cons (de_var 0 rfl) da_nil) ⟨wd, o, rows, rfl, hR.most, rfl⟩ (.dat _))) ?_)
    refine ex_cons (ds_par3 (i := 1) (j := 2) (l := 3) rfl sc_any_reset.nd (da_cons (de_cP c2 hr (da_cons (de_var 0 rfl) da_nil) ⟨wd, o, rows, rfl, hR, rfl⟩ (.dat _)) (da_cons (de_cP c3 hr (da_cons (de_var 0 rfl) da_nil) ⟨wd, o, rows, rfl, hR.most, rfl⟩ (.new (.dl _))) (da_cons (de_lst da_nil (.ow 1 _ (by decide) rfl)) da_nil)))) ?_
    refine ex_while (fun n S => ∃ lot acc t, S = st lot acc t ∧ okG rows.length lot ∧ lot.length ≤ n ∧ acc.length + 256 * n ≤ 256 * 16 ∧ anyF wd rows n lot acc = anyW wd rows) (n := rows.length) ⟨allS rows.length, [], none, rfl, okG_all h0, by rw [allS_len]; exact Nat.le_refl _, by simp; omega, rfl⟩ ?_
    rintro n S ⟨lot, acc, t, rfl, hk, hl, hz, hany⟩
    by_cases h1 : lot.length ≤ 1
    · left
      rw [anyF_one h1] at hany
      rw [← hany]
      exact ⟨_, dt_to (dt_gtI (de_len M.blt.len (de_var 2 rfl) (.lst (.dat _))) de_int) (by rw [List.length_map]; simp; omega), ex_ret (de_var 3 rfl) (.new (by decide) rfl)⟩
    · right
      refine ⟨_, dt_to (dt_gtI (de_len M.blt.len (de_var 2 rfl) (.lst (.dat _))) de_int) (by rw [List.length_map]; simp; omega), ?_⟩
      obtain ⟨n', rfl⟩ : ∃ j, n = j + 1 := ⟨n - 1, by omega⟩
      match lot, h1, hl, hk, hany with
      | a :: b :: rest, h1, hl, hk, hany =>
        rw [anyF_turn] at hany
        have ha := hk.inm a (by simp)
        have hb := hk.inm b (by simp)
        have ea : ((a.toNat : Nat) : Int) = a := by omega
        have eb : ((b.toNat : Nat) : Int) = b := by omega
        cases e : meetW wd rows a.toNat b.toNat with
        | none =>
          rw [e] at hany
          have hany : none = anyW wd rows := hany
          rw [← hany]
          refine ex_cons (ds_set (i := 4) (de_cP c4 hr (da_cons (de_var 0 rfl) (da_cons (de_ixL (i := 0) (d := .int a) (de_var 2 rfl) de_int (.dat _) (atI_nn (by decide) rfl)) (da_cons (de_ixL (i := 1) (d := .int b) (de_var 2 rfl) de_int (.dat _) (atI_nn (by decide) rfl)) da_nil))) ⟨wd, o, rows, a.toNat, b.toNat, by rw [ea, eb], hR, by omega, by omega, by rw [e]; rfl⟩ (.dat .non)) sc_any_reset.nd) ?_
          exact ex_ifT (dt_to (dt_isNon (de_var 4 rfl)) rfl) (ex_ret de_non .dat)
        | some u =>
          rw [e] at hany
          have hany : anyF wd rows n' (lrun wd rows (a :: b :: rest) u) (acc ++ u) = anyW wd rows := hany
          obtain ⟨hu1, hu2⟩ := meet_len hR (by omega) (by omega) e
          have hme := meet_srun hR e
          rw [ea, eb] at hme
          have hless := lot_less hR hk hu2 hme
          refine ex_cons (ds_set (i := 4) (de_cP c4 hr (da_cons (de_var 0 rfl) (da_cons (de_ixL (i := 0) (d := .int a) (de_var 2 rfl) de_int (.dat _) (atI_nn (by decide) rfl)) (da_cons (de_ixL (i := 1) (d := .int b) (de_var 2 rfl) de_int (.dat _) (atI_nn (by decide) rfl)) da_nil))) ⟨wd, o, rows, a.toNat, b.toNat, by rw [ea, eb], hR, by omega, by omega, by rw [e]; rfl⟩ (.new (.dl _))) sc_any_reset.nd) ?_
          refine ex_ifN (dt_to (dt_isNon (de_var 4 rfl)) rfl) ?_
          refine ex_cons (ds_expr (de_extend (n := 1) (de_var 3 rfl) (de_var 4 rfl) rfl rfl (.dat _) (by rw [List.length_map, List.length_map, lw, lw, List.length_map, List.length_map]; omega))) ?_
          refine ex_cons (ds_set (i := 2) (de_cP c5 hr (da_cons (de_var 1 rfl) (da_cons (de_var 2 rfl) (da_cons (de_var 4 rfl) da_nil))) ⟨wd, o, rows, _, _, a :: b :: rest, lw wd u, rfl, hR, .inl rfl, .inl rfl, lw_in hu2, hk.inm, by have := hk.len; omega, rfl⟩ (.new (.dl _))) sc_any_reset.nd) ?_
          refine ex_nil ⟨n', by omega, lrun wd rows (a :: b :: rest) u, acc ++ u, some (.dat (.lst ((lw wd u).map tI))), ?_, okG_run hR u hk hu2, by omega, by rw [List.length_append]; omega, hany⟩
          rw [ledL_lrun]
          show _ = st _ _ _
          simp only [st, lw_app, List.map_append]
          rfl
      | [], h1, _, _, _ => exact absurd (Nat.zero_le _) h1
      | [a], h1, _, _, _ => exact absurd (Nat.le_refl _) h1
/-! ### is_reset -/
def wordOf (v : D) : List (List Int) := match v with
  | .lst es => es.map tupI
  | .tup es => es.map tupI
  | _ => []
/-- what is_reset says of any value -/
def isRs (wd : Nat) (rows : List Row) (v : D) : Bool := isWdD wd v && decide ((ledL wd rows (allS rows.length) (wordOf v)).length = 1)
theorem iter_mem : ∀ (b : List Int) (L : List (List Int)) (a : List Int), a ∈ L → bits b → a ++ b ∈ iterL b.length L
  | [], L, a, h, _ => by rw [List.append_nil]; exact h
  | x :: b, L, a, h, hb => by
    have h1 : a ++ [x] ∈ stepL L := List.mem_flatMap.mpr ⟨a, h, by
      rcases hb x List.mem_cons_self with rfl | rfl
      · simp
      · simp⟩
    have := iter_mem b (stepL L) (a ++ [x]) h1 fun i hi => hb i (List.mem_cons_of_mem _ hi)
    rw [List.append_assoc] at this
    exact this
theorem lets_mem {wd : Nat} {l : List Int} (h : bits l) (hl : l.length = wd) : l ∈ allL wd := by
  have := iter_mem l [[]] [] (by simp) h
  rw [List.nil_append, hl] at this
  exact this
theorem isBit_int {d : D} (h : isBit d = true) : ∃ i, d = .int i ∧ isBt i := by
  cases d with
  | int i =>
    simp only [isBit, Bool.and_eq_true, decide_eq_true_eq] at h
    refine ⟨i, rfl, ?_⟩
    unfold isBt
    omega
  | _ => cases h
theorem bits_ints : ∀ {es : List D}, es.all isBit = true → ∃ l : List Int, es = l.map .int ∧ bits l
  | [], _ => ⟨[], rfl, fun i h => nomatch h⟩
  | d :: es, h => by
    rw [List.all_cons, Bool.and_eq_true] at h
    obtain ⟨i, rfl, hi⟩ := isBit_int h.1
    obtain ⟨l, rfl, hl⟩ := bits_ints h.2
    refine ⟨i :: l, rfl, fun j hj => ?_⟩
    rcases List.mem_cons.mp hj with rfl | hj
    · exact hi
    · exact hl j hj
theorem isLet_tI {wd : Nat} {d : D} (h : isLetD wd d = true) : ∃ l, d = tI l ∧ l ∈ allL wd := by
  cases d with
  | tup es =>
    simp only [isLetD, Bool.and_eq_true, decide_eq_true_eq] at h
    obtain ⟨l, rfl, hl⟩ := bits_ints h.2
    exact ⟨l, rfl, lets_mem hl (by simpa using h.1)⟩
  | _ => cases h
theorem isLet_of {wd : Nat} {l : List Int} (h : l ∈ allL wd) : isLetD wd (tI l) = true := by
  obtain ⟨h1, h2⟩ := letters_lets l h
  simp only [isLetD, tI, Bool.and_eq_true, decide_eq_true_eq, List.length_map]
  refine ⟨h2, List.all_eq_true.mpr fun d hd => ?_⟩
  obtain ⟨i, hi, rfl⟩ := List.mem_map.mp hd
  rcases h1 i hi with rfl | rfl <;> rfl
theorem word_tIs {wd : Nat} : ∀ {es : List D}, es.all (isLetD wd) = true → es = (es.map tupI).map tI ∧ ∀ l ∈ es.map tupI, l ∈ allL wd
  | [], _ => ⟨rfl, fun l h => nomatch h⟩
  | d :: es, h => by
    rw [List.all_cons, Bool.and_eq_true] at h
    obtain ⟨l, rfl, hl⟩ := isLet_tI h.1
    obtain ⟨h1, h2⟩ := word_tIs h.2
    rw [List.map_cons, tupI_tI]
    refine ⟨by rw [List.map_cons, ← h1], fun x hx => ?_⟩
    rcases List.mem_cons.mp hx with rfl | hx
    · exact hl
    · exact h2 x hx
theorem isWd_sq {wd : Nat} {v : D} (h : isWdD wd v = true) : sqOf v ((wordOf v).map tI) ∧ ∀ l ∈ wordOf v, l ∈ allL wd := by
  cases v with
  | lst es =>
    obtain ⟨h1, h2⟩ := word_tIs (show es.all (isLetD wd) = true from h)
    exact ⟨.inl (congrArg D.lst h1), h2⟩
  | tup es =>
    obtain ⟨h1, h2⟩ := word_tIs (show es.all (isLetD wd) = true from h)
    exact ⟨.inr (congrArg D.tup h1), h2⟩
  | _ => cases h
def R_is_reset (C : Addr) (ds : List D) (r : Res) : Prop := ∃ (wd o : Nat) (rows : List Row) (v : D), ds = [macD C wd o rows, v] ∧ RowsOk wd o rows ∧ okWd v ∧ r = .dat (.bl (isRs wd rows v))
abbrev C_is_reset (P : Program) (w : World) (K : PySem.W.Frag) (mg : Str → Option Value) (base : Heap) (C : Addr) : Prop := CE P w K mg base 6 "is_reset" s_is_reset p_is_reset (R_is_reset C)
theorem ledL_ok {wd o : Nat} {rows : List Row} (h : RowsOk wd o rows) : ∀ (ls : List (List Int)) (lot : List Int), (∀ l ∈ ls, l ∈ allL wd) → inM rows.length lot → lot.length ≤ 16 → (ledL wd rows lot ls).length ≤ 16
  | [], _, _, _, hz => hz
  | l :: ls, lot, hl, hm, hz => ledL_ok h ls (nextL wd rows lot l) (fun x hx => hl x (List.mem_cons_of_mem _ hx)) (nextL_ok h (hl l List.mem_cons_self) hm) (nextL_len h (hl l List.mem_cons_self) hm)
theorem g_is_reset (M : Mod K mg) (MC : Mac K mg C) (c1 : C_want_few_states P w K mg base C) (c2 : C_is_wordV P w K mg base) (c3 : C_moves_of P w K mg base C) (c4 : C_all_states P w K mg base C) (c5 : C_led_by P w K mg base) : C_is_reset P w K mg base C := by
  refine calP (k := 5) M.is_reset sc_is_reset 1 (fun ds r h => ?_) fun ds r h f cdv A outer s H hr => ?_
  · obtain ⟨wd, o, rows, v, rfl, _⟩ := h
    rfl
  · obtain ⟨wd, o, rows, v, rfl, hR, hv, rfl⟩ := h
    obtain ⟨pp, g, gd, hF, hp, hb⟩ := MC.width
    have hn := hR.most
    refine Ex.runs (ex_cons (ds_expr (de_cP c1 hr (da_cons (de_var 0 rfl) da_nil) ⟨wd, o, rows, rfl, hR.most, rfl⟩ (.dat _))) ?_)
    have hw : ∀ {b : Bool}, isWdD wd v = b → Res.dat (.bl (isWdD wd v)) = .dat (.bl b) := fun e => by rw [e]
    cases e : isWdD wd v with
    | false =>
      have e2 : isRs wd rows v = false := by unfold isRs; rw [e]; rfl
      rw [e2]
      exact ex_ifT (dt_notT (dt_val (de_cP c2 hr (da_cons (de_var 1 rfl) (da_cons (de_prop (de_var 0 rfl) MC.isc.cl hp (g_Cwidth MC hF) hb (hr.mono (by decide)) ⟨wd, o, rows, rfl, rfl⟩ (.dat _)) da_nil)) ⟨v, wd, rfl, hv, by rw [e]⟩ (.dat _)))) (ex_ret de_bl .dat)
    | true =>
      obtain ⟨hs, hl⟩ := isWd_sq e
      have e2 : isRs wd rows v = decide ((ledL wd rows (allS rows.length) (wordOf v)).length = 1) := by unfold isRs; rw [e]; rfl
      rw [e2]
      have hm : inM rows.length (allS rows.length) := fun s hs => allS_mem.mp hs
      refine ex_ifN (dt_notF (dt_val (de_cP c2 hr (da_cons (de_var 1 rfl) (da_cons (de_prop (de_var 0 rfl) MC.isc.cl hp (g_Cwidth MC hF) hb (hr.mono (by decide)) ⟨wd, o, rows, rfl, rfl⟩ (.dat _)) da_nil)) ⟨v, wd, rfl, hv, by rw [e]⟩ (.dat _)))) ?_
      exact ex_ret (de_to (de_eqI (de_len M.blt.len (de_cP c5 hr (da_cons (de_cP c3 hr (da_cons (de_var 0 rfl) da_nil) ⟨wd, o, rows, rfl, hR, rfl⟩ (.dat _)) (by exact da_cons (de_cP c4 hr (da_cons (de_var 0 rfl) da_nil) ⟨wd, o, rows, rfl, hR.most, rfl⟩ (.new (.dl _))) (da_cons (de_var 1 rfl) da_nil))) ⟨wd, o, rows, _, v, allS rows.length, wordOf v, rfl, hR, .inl rfl, hs, hl, hm, by rw [allS_len]; exact hn, rfl⟩ (.new (.dl _))) (.lst (.dat _))) de_int) (by rw [List.length_map]; exact congrArg (fun b => U.dat (.bl b)) (decide_eq_decide.mpr (by omega)))) .dat
end K82
namespace K82
open PySem PySem.Spec PyProof.Rows L2 DL
/-! ### lots as masks -/
def maskOf : List Int → Nat
  | [] => 0
  | s :: lot => 2 ^ s.toNat ||| maskOf lot
theorem testBit_mask : ∀ (lot : List Int) (t : Nat), (∀ s ∈ lot, 0 ≤ s) → ((maskOf lot).testBit t = true ↔ (t : Int) ∈ lot)
  | [], t, _ => by simp [maskOf]
  | s :: lot, t, h => by
    have ih := testBit_mask lot t fun x hx => h x (List.mem_cons_of_mem _ hx)
    have h0 := h s List.mem_cons_self
    show (2 ^ s.toNat ||| maskOf lot).testBit t = true ↔ _
    rw [Nat.testBit_or, Nat.testBit_two_pow, Bool.or_eq_true, ih, decide_eq_true_eq, List.mem_cons]
    constructor
    · rintro (e | e)
      · exact .inl (by omega)
      · exact .inr e
    · rintro (e | e)
      · exact .inl (by omega)
      · exact .inr e
theorem mask_lt {n : Nat} {lot : List Int} (h : inM n lot) : maskOf lot < 2 ^ n := by
  refine Nat.lt_pow_two_of_testBit _ fun i hi => ?_
  cases e : (maskOf lot).testBit i with
  | false => rfl
  | true =>
    have := h _ ((testBit_mask lot i fun s hs => (h s hs).1).mp e)
    omega
theorem mask_inj {n : Nat} {a b : List Int} (ha : okG n a) (hb : okG n b) (e : maskOf a = maskOf b) : a = b := by
  rw [← sset_self ha.srt, ← sset_self hb.srt]
  refine sset_eq fun k => ?_
  constructor
  · intro hk
    have h0 := (ha.inm k hk).1
    have ek : ((k.toNat : Nat) : Int) = k := by omega
    have := (testBit_mask a k.toNat fun s hs => (ha.inm s hs).1).mpr (by rw [ek]; exact hk)
    rw [e] at this
    have := (testBit_mask b k.toNat fun s hs => (hb.inm s hs).1).mp this
    rw [ek] at this
    exact this
  · intro hk
    have h0 := (hb.inm k hk).1
    have ek : ((k.toNat : Nat) : Int) = k := by omega
    have := (testBit_mask b k.toNat fun s hs => (hb.inm s hs).1).mpr (by rw [ek]; exact hk)
    rw [← e] at this
    have := (testBit_mask a k.toNat fun s hs => (ha.inm s hs).1).mp this
    rw [ek] at this
    exact this
theorem lots_cardG {n : Nat} {xs : List (List Int)} (hn : xs.Nodup) (h : ∀ x ∈ xs, okG n x) : xs.length ≤ 2 ^ n := by
  have h2 : (xs.map maskOf).Nodup := by
    refine List.pairwise_map.mpr (hn.imp_of_mem ?_)
    intro a b ha hb hab e
    exact hab (mask_inj (h a ha) (h b hb) e)
  have := nodup_len h2 (b := List.range (2 ^ n)) fun k hk => by
    obtain ⟨x, hx, rfl⟩ := List.mem_map.mp hk
    exact List.mem_range.mpr (mask_lt (h x hx).inm)
  rw [List.length_map, List.length_range] at this
  exact this
theorem g_card {wd o : Nat} {rows : List Row} (h : RowsOk wd o rows) {s0 : List Int} (k : okG rows.length s0) (L : List (List Nat)) (i l : Nat) (I : LInv wd rows s0 L i l) : L.length ≤ 2 ^ rows.length := by
  have := lots_cardG (n := rows.length) I.dist fun x hx => by
    obtain ⟨u, hu, rfl⟩ := List.mem_map.mp hx
    exact okG_run h u k (I.dig u hu)
  rw [List.length_map] at this
  exact this
theorem pow_10 {n : Nat} (h : n ≤ 10) : 2 ^ n ≤ 1024 := Nat.pow_le_pow_right (by decide) h
/-! ### reset words -/
abbrev one1 (lot : List Int) : Bool := lot.length == 1
abbrev LeastR (wd : Nat) (rows : List Row) (u : List Nat) : Prop := BF.Least (lstep wd rows) (allS rows.length) (allL wd).length one1 u
/-- the search was not cut off -/
structure FewL (wd : Nat) (rows : List Row) : Prop where
  inv : LInv wd rows (allS rows.length) (lotsR wd rows) (lotsR wd rows).length 0
  few : (lotsR wd rows).length ≤ 2000
theorem few_small {wd o : Nat} {rows : List Row} (h : RowsOk wd o rows) (h0 : 0 < rows.length) (h1 : rows.length ≤ 10) : FewL wd rows := by
  obtain ⟨i, I, hi⟩ := BF.bfsL_inv (step := lstep wd rows) (s0 := allS rows.length) (k := (allL wd).length) (most := 2000) (2000 + 1) [[]] 0 (BF.inv_start _ _ _) (Nat.le_refl _)
  have hc := g_card h (okG_all h0) _ _ _ I
  have := pow_10 h1
  have hl : (lotsR wd rows).length ≤ 2000 := by
    show (BF.bfsL _ _ _ _ _ _ _).length ≤ _
    omega
  refine ⟨?_, hl⟩
  rcases hi with e | e
  · rw [e] at I
    exact I
  · exact absurd hl (by show ¬ (BF.bfsL _ _ _ _ _ _ _).length ≤ _; omega)
theorem reset_least {wd : Nat} {rows : List Row} (f : FewL wd rows) {u : List Nat} (e : resetW wd rows = some u) : LeastR wd rows u := BF.Inv.find f.inv (p := one1) e
theorem reset_never {wd : Nat} {rows : List Row} (f : FewL wd rows) (e : resetW wd rows = none) (v : List Nat) (hv : ∀ x ∈ v, x < (allL wd).length) : one1 (lrun wd rows (allS rows.length) v) = false :=
  BF.Inv.never f.inv (p := one1) (fun v hv => by
    have := List.find?_eq_none.mp e v hv
    cases q : one1 (lrun wd rows (allS rows.length) v) with
    | false => rfl
    | true => exact absurd q this) v hv
theorem reset_some {wd : Nat} {rows : List Row} (f : FewL wd rows) {u : List Nat} (l : LeastR wd rows u) : resetW wd rows = some u := by
  cases e : resetW wd rows with
  | none =>
    have := reset_never f e u l.dig
    rw [l.holds] at this
    cases this
  | some v => rw [BF.Least.same (reset_least f e) l fun w _ => rfl]
theorem reset_none {wd : Nat} {rows : List Row} (f : FewL wd rows) (l : ∀ v, (∀ x ∈ v, x < (allL wd).length) → one1 (lrun wd rows (allS rows.length) v) = false) : resetW wd rows = none := by
  cases e : resetW wd rows with
  | none => rfl
  | some v =>
    have k := reset_least f e
    have := l v k.dig
    rw [k.holds] at this
    cases this
end K82
namespace K82
open PySem PySem.Spec PyProof.Rows L2 DL
variable {P : Program} {w : World} {K : PySem.W.Frag} {mg : Str → Option Value} {base : Heap} {C : Addr}
/-! ### _law_lot_behind -/
theorem ledL_run {wd : Nat} {rows : List Row} : ∀ (ls : List (List Int)) (lot : List Int), lot.Pairwise (· < ·) → ledL wd rows lot ls = sset (lot.map fun s => runI wd rows s ls)
  | [], lot, h => by
    have e : (lot.map fun s => runI wd rows s []) = lot := List.map_id lot
    rw [e, sset_self h]
    rfl
  | l :: ls, lot, h => by
    show ledL wd rows (nextL wd rows lot l) ls = _
    rw [ledL_run ls (nextL wd rows lot l) (sset_sorted _)]
    refine sset_eq fun k => ?_
    rw [List.mem_map, List.mem_map]
    constructor
    · rintro ⟨s, hs, rfl⟩
      obtain ⟨t, ht, rfl⟩ := List.mem_map.mp (mem_sset.mp hs)
      exact ⟨t, ht, rfl⟩
    · rintro ⟨t, ht, rfl⟩
      exact ⟨go wd rows t l, mem_sset.mpr (List.mem_map.mpr ⟨t, ht, rfl⟩), rfl⟩
def R_law_lot_behind (ds : List D) (r : Res) : Prop := ∃ (wd o : Nat) (rows : List Row) (lot : List Int) (v : D) (ls : List (List Int)), ds = [modD wd rows, lI lot, v] ∧ sqOf v (ls.map tI) ∧ RowsOk wd o rows ∧ (∀ l ∈ ls, l ∈ allL wd) ∧ ls.length ≤ 10000 ∧ lot.Pairwise (· < ·) ∧ inM rows.length lot ∧ r = .new ((ledL wd rows lot ls).map .int)
abbrev C_law_lot_behind (P : Program) (w : World) (K : PySem.W.Frag) (mg : Str → Option Value) (base : Heap) : Prop := CE P w K mg base 2 "_law_lot_behind" s_law_lot_behind p_law_lot_behind R_law_lot_behind
theorem g_law_lot_behind (M : Mod K mg) (c1 : C_law_run P w K mg base) : C_law_lot_behind P w K mg base := by
  refine calP (k := 1) M.law_lot_behind sc_law_lot_behind 2 (fun ds r h => ?_) fun ds r h f cdv A outer s H hr => ?_
  · obtain ⟨wd, o, rows, lot, v, ls, rfl, _⟩ := h
    rfl
  · obtain ⟨wd, o, rows, lot, v, ls, rfl, hv, hR, hl, hz, hs, hm, rfl⟩ := h
    have h16 : lot.length ≤ 16 := Nat.le_trans (sorted_len rows.length lot hs hm) hR.most
    rw [ledL_run ls lot hs]
    refine runs_ret (de_sset (ns := lot.map fun s => runI wd rows s ls) rfl M.blt.sorted M.blt.set (de_lcD (es := (lot.map fun s => runI wd rows s ls).map .int) [("_law_state", 3)] (fun d => match d with
      | .int s => .int (runI wd rows s ls)
      | d => d) (T := .one 3) rfl sc_law_lot_behind.nd (di_lst (de_var 1 rfl)) (blkOk_by (N := n_law_lot_behind) (sc := defScope s_law_lot_behind) (by decide +kernel)) rfl (fun _ _ _ _ _ => pg_name sc_law_lot_behind.nd rfl (.inl rfl)) (fun d hd => ?_) (by rw [List.map_map, List.map_map]; rfl) (by rw [List.length_map]; omega)) (.dat _) (by rw [List.length_map]; omega) (.ow 1 _ (by decide) rfl)) (.new (by decide) rfl)
    obtain ⟨s, hs, rfl⟩ := List.mem_map.mp hd
    exact ⟨_, _, rfl, fun _ _ _ _ _ => de_ixT (de_cP c1 hr (da_cons (de_var 0 rfl) (da_cons (de_var 3 rfl) (da_cons (de_var 2 rfl) da_nil))) ⟨wd, o, rows, s, v, ls, rfl, hv, hR, hl, hz, (hm s hs).1, (hm s hs).2, rfl⟩ (.dat _)) de_int rfl, rfl⟩
/-! ### _law_is_reset -/
def strsL (wd : Nat) : List D := (allL wd).map fun l => .str (reprD (tI l))
theorem strsL_lay : ((List.range 3).all fun wd => (allL wd).all fun l => PyData.canLay0 (.str (reprD (tI l)))) = true := by decide +kernel
theorem good_strsL {wd : Nat} (h : wd ≤ 2) : good 60 (.lst (strsL wd)) = true := good_lst fun d hd => by
  obtain ⟨q, hq, rfl⟩ := List.mem_map.mp hd
  simp only [good]
  exact List.all_eq_true.mp (List.all_eq_true.mp strsL_lay wd (List.mem_range.mpr (by omega))) q hq
inductive RepL : D → Prop
  | non : RepL .non
  | int {i : Int} : i.natAbs ≤ 1000 → RepL (.int i)
  | str {x : Str} : (reprText x).length ≤ 16777216 → RepL (.str x)
  | mild {r : List Nat} {d : D} : mild r d = true → isSeqD d = true → r.length ≤ 60 → 15 * wB r + 13 ≤ 16777216 → RepL d
/-- a member of a value that the law may ask of -/
structure okLE (wd : Nat) (d : D) : Prop where
  rep : RepL d
  lay : PyData.canLay0 (.str (reprD d)) = true
  ok : okE d
  known : ((strsL wd).any fun z => eqD z (.str (reprD d))) = isLetD wd d
structure okWL (wd : Nat) (v : D) : Prop where
  ok : okD v
  nr : ∀ ds, v ≠ .rol ds
  mem : ∀ ds, sqOf v ds → ds.length ≤ 10000 ∧ ∀ d ∈ ds, okLE wd d
theorem okWL.to {wd : Nat} {v : D} (h : okWL wd v) : okWd v := ⟨h.ok, h.nr, fun ds hs => ⟨by have := (h.mem ds hs).1; omega, fun d hd => ((h.mem ds hs).2 d hd).ok⟩⟩
theorem de_reprL {X : Cx} {a : Expr} {S S1 : DSt} {d : D} {wd : Nat} {p pos : Pos} (k : okLE wd d) (hgd : X.A.guards = some []) (hu : X.A.units + 64 < cLine) (hm : X.mg "repr" = none) (ha : DE X a S (.dat d) S1) (hg : Gl X "repr" := by rfl) (he : starEach [a] X.env = (false, eval a X.env) :: starEach [] X.env := by rfl) :
    DE X (.Call (.Name "repr" p) [a] [] pos) S (.dat (.str (reprD d))) S1 := by
  have k := k.rep
  cases k with
  | non => exact de_reprN hm ha hg he
  | int h => exact de_reprI h hm ha hg he
  | str h => exact de_reprS h hm ha hg he
  | mild h1 h2 h3 h4 => exact de_repr hgd hu hm ha (.dat _) h1 h2 h3 h4 hg he
def R_law_is_reset (ds : List D) (r : Res) : Prop := ∃ (wd o : Nat) (rows : List Row) (v : D), ds = [modD wd rows, v] ∧ RowsOk wd o rows ∧ wd ≤ 2 ∧ okWL wd v ∧ r = .dat (.bl (isRs wd rows v))
abbrev C_law_is_reset (P : Program) (w : World) (K : PySem.W.Frag) (mg : Str → Option Value) (base : Heap) : Prop := CE P w K mg base 3 "_law_is_reset" s_law_is_reset p_law_is_reset R_law_is_reset
theorem g_law_is_reset (M : Mod K mg) (c1 : C_law_lot_behind P w K mg base) : C_law_is_reset P w K mg base := by
  refine calP (k := 2) M.law_is_reset sc_law_is_reset 0 (fun ds r h => ?_) fun ds r h f cdv A outer s H hr => ?_
  · obtain ⟨wd, o, rows, v, rfl, _⟩ := h
    rfl
  · obtain ⟨wd, o, rows, v, rfl, hR, h2, hv, rfl⟩ := h
    have hn := hR.most
    have hal := allL_16 hR.w4
    have hisi : (isiT (tyN v) "list" || isiT (tyN v) "tuple") = isSq v := by
      have := hv.ok
      unfold okD at this
      cases v <;> first | rfl | exact absurd rfl this
    cases h1 : isSq v with
    | false =>
      have e : isRs wd rows v = false := by
        have : isWdD wd v = false := by cases v <;> first | rfl | cases h1
        unfold isRs
        rw [this]
        rfl
      rw [e]
      exact Ex.runs (ex_ifT (dt_notT (dt_val (de_to (de_isi2 M.blt.isinstance (de_var 1 rfl) (de_tup (da_cons (de_bltn M.blt.list PyProof.Rows.boot_list) (da_cons (de_bltn M.blt.tuple PyProof.Rows.boot_tuple) da_nil))) (.dat v) hv.ok) (by rw [hisi, h1])))) (ex_ret de_bl .dat))
    | true =>
      obtain ⟨es, hs⟩ : ∃ es, sqOf v es := by
        cases v with
        | lst es => exact ⟨es, .inl rfl⟩
        | tup es => exact ⟨es, .inr rfl⟩
        | rol es => exact absurd rfl (hv.nr es)
        | _ => cases h1
      obtain ⟨hl, hok⟩ := hv.mem es hs
      have ew : isWdD wd v = es.all (isLetD wd) := by rcases hs with rfl | rfl <;> rfl
      refine Ex.runs (ex_ifN (dt_notF (dt_val (de_to (de_isi2 M.blt.isinstance (de_var 1 rfl) (de_tup (da_cons (de_bltn M.blt.list PyProof.Rows.boot_list) (da_cons (de_bltn M.blt.tuple PyProof.Rows.boot_tuple) da_nil))) (.dat v) hv.ok) (by rw [hisi, h1])))) ?_)
      refine ex_cons (ds_set (i := 2) (de_lc (m' := []) (own := [("_law_letter", 3)]) (T := .one 3) (es := strsL wd) rfl sc_law_is_reset.nd (di_lst (de_ixT (d := .lst ((allL wd).map tI)) (de_var 0 rfl) de_int rfl)) (blkOk_by (N := n_law_is_reset) (sc := defScope s_law_is_reset) (by decide +kernel)) rfl (fun _ _ _ _ _ => pg_name sc_law_is_reset.nd rfl (.inl rfl)) ?_ (.dl _) ?_) sc_law_is_reset.nd) ?_
      · have e1 : strsL wd = ((allL wd).map tI).map fun d => .str (reprD d) := by
          unfold strsL
          rw [List.map_map]
          rfl
        rw [e1]
        refine lc_map fun d hd => ?_
        obtain ⟨q, hq, rfl⟩ := List.mem_map.mp hd
        obtain ⟨b1, b2⟩ := letters_lets q hq
        refine ⟨_, _, rfl, fun _ _ _ _ _ => de_repr hr.gd hr.u64 M.blt.repr (de_var 3 rfl) (.dat _) (mild_tI (r := []) (n := 2) (by omega) fun i hi => ?_), rfl⟩
        rcases b1 i hi with rfl | rfl <;> decide
      · rw [List.length_map]
        omega
      · have gst := good_strsL h2
        refine ex_ifB (x := !es.all (isLetD wd)) (dt_not (dt_val (de_allLc [("_law_letter", 3)] (T := .one 3) (isLetD wd) rfl M.blt.all sc_law_is_reset.nd (di_sq (de_var 1 rfl) hs) (blkOk_by (N := n_law_is_reset) (sc := defScope s_law_is_reset) (by decide +kernel)) rfl (fun _ _ _ _ _ => pg_name sc_law_is_reset.nd rfl (.inl rfl)) (fun d hd => ?_) (by omega)))) (fun hx => ?_) (fun hx => ex_nil ?_)
        · refine ⟨_, _, rfl, fun _ _ _ _ _ => de_to (de_inD (d := .str (reprD d)) (ds := strsL wd) hr.u65 (de_reprL (hok d hd) hr.gd hr.u64 M.blt.repr (de_var 3 rfl)) (de_var 2 rfl) (.dat _) (.dat _) ?_ gst) (congrArg (fun b => U.dat (.bl b)) (hok d hd).known), rfl⟩
          simp only [good]
          exact (hok d hd).lay
        · have e : es.all (isLetD wd) = false := by simpa using hx
          have e2 : isRs wd rows v = false := by unfold isRs; rw [ew, e]; rfl
          rw [e2]
          exact ex_ret de_bl .dat
        · have e : es.all (isLetD wd) = true := by simpa using hx
          obtain ⟨hs2, hl2⟩ := isWd_sq (ew.trans e)
          have e2 : isRs wd rows v = decide ((ledL wd rows (allS rows.length) (wordOf v)).length = 1) := by unfold isRs; rw [ew, e]; rfl
          have hwl : (wordOf v).length ≤ 10000 := by
            have : (wordOf v).length = es.length := by rcases hs with rfl | rfl <;> exact List.length_map ..
            omega
          rw [e2]
          have hm : inM rows.length (allS rows.length) := fun s hs => allS_mem.mp hs
          exact ex_ret (de_to (de_eqI (de_len M.blt.len (de_cP c1 hr (da_cons (de_var 0 rfl) (da_cons (de_to (u' := .dat (lI (allS rows.length))) (de_listRg rfl M.blt.list M.blt.range (de_to (u' := .dat (.int rows.length)) (de_len M.blt.len (de_ixT (d := rowsD rows) (de_var 0 rfl) de_int rfl) (.lst (.dat _))) (by rw [List.length_map])) (by omega) (.dl _)) (by rw [rng_allS])) (da_cons (de_var 1 rfl) da_nil))) ⟨wd, o, rows, allS rows.length, v, wordOf v, rfl, hs2, hR, hl2, hwl, allS_srt _, hm, rfl⟩ (.new (.dl _))) (.lst (.dat _))) de_int) (by rw [List.length_map]; exact congrArg (fun b => U.dat (.bl b)) (decide_eq_decide.mpr (by omega)))) .dat
end K82
namespace K82
open PySem PySem.Spec PyProof.Rows L2 DL
variable {P : Program} {w : World} {K : PySem.W.Frag} {mg : Str → Option Value} {base : Heap} {C : Addr}
/-! ### _law_reset -/
def wrD (wd : Nat) (rows : List Row) (s0 : List Int) (u : List Nat) : D := .tup [tI (lrun wd rows s0 u), .lst ((lw wd u).map tI)]
def wrF (wd : Nat) (rows : List Row) (s0 : List Int) (L : List (List Nat)) (i : Nat) : List D := (L.drop i).map (wrD wd rows s0)
theorem good_wr {wd : Nat} {rows : List Row} {s0 : List Int} {L : List (List Nat)} {i : Nat} : good 60 (.lst (wrF wd rows s0 L i)) = true := by
  refine good_lst fun d hd => ?_
  obtain ⟨u, _, rfl⟩ := List.mem_map.mp hd
  refine good_tup fun d hd => ?_
  simp at hd
  rcases hd with rfl | rfl
  · exact good_tI _ (by decide)
  · refine good_lst fun d hd => ?_
    obtain ⟨l, _, rfl⟩ := List.mem_map.mp hd
    exact good_tI l (by decide)
def R_law_reset (ds : List D) (r : Res) : Prop := ∃ (wd o : Nat) (rows : List Row), ds = [modD wd rows] ∧ RowsOk wd o rows ∧ 0 < rows.length ∧ rows.length ≤ 10 ∧ r = .dat (wordD wd (resetW wd rows))
abbrev C_law_reset (P : Program) (w : World) (K : PySem.W.Frag) (mg : Str → Option Value) (base : Heap) : Prop := CE P w K mg base 2 "_law_reset" s_law_reset p_law_reset R_law_reset
theorem g_law_reset (M : Mod K mg) (c1 : C_law_goal P w K mg base) : C_law_reset P w K mg base := by
  refine calP (k := 1) M.law_reset sc_law_reset 3 (fun ds r h => ?_) fun ds r h f cdv A outer s H hr => ?_
  · obtain ⟨wd, o, rows, rfl, _⟩ := h
    rfl
  · obtain ⟨wd, o, rows, rfl, hR, hr0, h10, rfl⟩ := h
    have hn := hR.most
    have hL := allL_16 hR.w4
    have F := few_small hR hr0 h10
    let s0 : List Int := allS rows.length
    have hs0 : okG rows.length s0 := okG_all hr0
    have hp10 := pow_10 h10
    have card := fun L i l I => g_card hR hs0 L i l I
    have e0 : D.tup (rngN rows.length) = tI s0 := by rw [rng_allS]
    let st : List (List Nat) → Nat → Option U → Option U → Option U → Option U → Option U → DSt := fun L i t4 t5 t6 t7 t8 => ⟨[some (.dat (modD wd rows)), some (.dat (tI s0)), some (.own 1), some (.own 2), t4, t5, t6, t7, t8], [none, some (.lst (wrF wd rows s0 L i)), some (.lst ((L.map (lrun wd rows s0)).map tI))]⟩
    refine Ex.runs (ex_cons (ds_set (i := 1) (u := .dat (tI s0)) (de_to (de_tupRg rfl M.blt.tuple M.blt.range (de_to (u' := .dat (.int rows.length)) (de_len M.blt.len (de_ixT (d := rowsD rows) (de_var 0 rfl) de_int rfl) (.lst (.dat _))) (by rw [List.length_map])) (by omega)) (by rw [e0])) sc_law_reset.nd) ?_)
    refine ex_cons (ds_par (i := 2) (j := 3) rfl sc_law_reset.nd (da_cons (de_lst (da_cons (de_tup (da_cons (de_var 1 rfl) (da_cons (de_lst da_nil (.dl _)) da_nil))) da_nil) (.ow 1 _ (by decide) rfl)) (by exact da_cons (de_lst (da_cons (de_var 1 rfl) da_nil) (.ow 2 _ (by decide) rfl)) da_nil))) ?_
    refine ex_while (fun n S => ∃ L i t4 t5 t6 t7 t8, S = st L i t4 t5 t6 t7 t8 ∧ LInv wd rows s0 L i 0 ∧ n + i = 2 ^ rows.length + 1 ∧ ∀ j v, j < i → L[j]? = some v → one1 (lrun wd rows s0 v) = false) (n := 2 ^ rows.length + 1) ⟨[[]], 0, none, none, none, none, none, rfl, BF.inv_start _ _ _, rfl, fun j v h => by omega⟩ ?_
    rintro n S ⟨L, i, t4, t5, t6, t7, t8, rfl, I, hni, hno⟩
    have hLB := card _ _ _ I
    have hiL := I.le
    cases e : L[i]? with
    | none =>
      have h1 := List.getElem?_eq_none_iff.mp e
      have h2 : i = L.length := by omega
      subst h2
      left
      have hemp : wrF wd rows s0 L L.length = [] := by rw [wrF, List.drop_eq_nil_of_le h1]; rfl
      refine ⟨_, dt_to (dt_neNil hr.u64 (de_var 2 rfl) (.lst rfl) good_wr) (by rw [hemp]; rfl), ?_⟩
      have := reset_none F (BF.Inv.never I fun v hv => by
        obtain ⟨j, hj, rfl⟩ := List.getElem_of_mem hv
        exact hno j _ hj (List.getElem?_eq_getElem hj))
      rw [this]
      exact ex_ret de_non .dat
    | some u =>
      obtain ⟨hi, hu⟩ := List.getElem?_eq_some_iff.mp e
      have hw : wrF wd rows s0 L i = wrD wd rows s0 u :: wrF wd rows s0 L (i + 1) := by
        unfold wrF
        rw [List.drop_eq_getElem_cons hi, List.map_cons, hu]
      have hwz : (wrF wd rows s0 L i).length ≤ 1000000 := by rw [wrF, List.length_map, List.length_drop]; omega
      have hw2 : (wrF wd rows s0 L i).eraseIdx (0 : Int).toNat = wrF wd rows s0 L (i + 1) := by rw [hw]; rfl
      have hz := okG_run hR u hs0 (I.dig u (List.mem_of_getElem? e))
      have hzl := hz.len
      right
      refine ⟨_, dt_to (dt_neNil hr.u64 (de_var 2 rfl) (.lst rfl) good_wr) (by rw [hw]; rfl), ?_⟩
      refine ex_cons (ds_asgT (is := [4, 5]) (ds := [tI (lrun wd rows s0 u), .lst ((lw wd u).map tI)]) (de_popAt (n := 1) (d := wrD wd rows s0 u) (de_var 2 rfl) de_int rfl rfl (by decide) (by rw [hw]; rfl) hwz) (tg_two rfl sc_law_reset.nd)) ?_
      rw [hw2]
      cases heq : one1 (lrun wd rows s0 u) with
      | true =>
        have hm := reset_some F (BF.Inv.first I e heq hno)
        rw [hm]
        exact ex_ifT (dt_to (dt_eqI (de_len M.blt.len (de_var 4 rfl) (.tup _)) de_int) (by rw [List.length_map, eq_of_beq heq]; rfl)) (ex_ret (de_var 5 rfl) .dat)
      | false =>
        refine ex_ifN (dt_to (dt_eqI (de_len M.blt.len (de_var 4 rfl) (.tup _)) de_int) (by rw [List.length_map]; simp at heq ⊢; omega)) ?_
        have hx : ∀ j, lstep wd rows (lrun wd rows s0 u) j = lrun wd rows s0 (u ++ [j]) := fun j => by
          unfold lrun
          rw [BF.run_snoc]
        refine ex_forI (T := .one 6) (fun l S => ∃ L' t6 t7 t8, S = ⟨[some (.dat (modD wd rows)), some (.dat (tI s0)), some (.own 1), some (.own 2), some (.dat (tI (lrun wd rows s0 u))), some (.dat (.lst ((lw wd u).map tI))), t6, t7, t8], [none, some (.lst (wrF wd rows s0 L' (i + 1))), some (.lst ((L'.map (lrun wd rows s0)).map tI))]⟩ ∧
          LInv wd rows s0 L' i l ∧ L'[i]? = some u ∧ ∀ j v, j < i + 1 → L'[j]? = some v → one1 (lrun wd rows s0 v) = false) (ds := (allL wd).map tI) rfl (di_lst (de_ixT (d := .lst ((allL wd).map tI)) (de_var 0 rfl) de_int rfl)) (pg_name sc_law_reset.nd rfl (.inr rfl)) ⟨L, t6, t7, t8, rfl, I, e, ?_⟩ ?_ ?_
        · intro j v hj hv
          by_cases hji : j = i
          · subst hji
            rw [e] at hv
            injection hv with hv
            subst hv
            exact heq
          · exact hno j v (by omega) hv
        · rintro l d S hd ⟨L', t6, t7, t8, rfl, I', hu', hno'⟩
          rw [List.getElem?_map] at hd
          have hl : l < (allL wd).length := by
            by_cases q : l < (allL wd).length
            · exact q
            · rw [List.getElem?_eq_none (by omega)] at hd
              cases hd
          rw [List.getElem?_eq_getElem hl] at hd
          have hd := Option.some.inj hd
          subst hd
          have hlt : (allL wd)[l] = ltr wd l := by rw [ltr, getD_lt hl]
          rw [hlt]
          have hLB' := card _ _ _ I'
          have hiL' := (List.getElem?_eq_some_iff.mp hu').1
          have I2 := I'.add1 hu' hl
          refine ⟨_, rfl, ex_cons (ds_set (i := 7) (u := .dat (tI (lstep wd rows (lrun wd rows s0 u) l))) (de_tupleL M.blt.tuple (de_sset (ns := (lrun wd rows s0 u).map fun s => go wd rows s (ltr wd l)) rfl M.blt.sorted M.blt.set (de_lcD (es := ((lrun wd rows s0 u).map fun s => go wd rows s (ltr wd l)).map .int) [("_law_state", 8)] (fun d => match d with
            | .int s => .int (go wd rows s (ltr wd l))
            | d => d) (T := .one 8) rfl sc_law_reset.nd (di_tup (de_var 4 rfl)) (blkOk_by (N := n_law_reset) (sc := defScope s_law_reset) (by decide +kernel)) rfl (fun _ _ _ _ _ => pg_name sc_law_reset.nd rfl (.inl rfl)) (fun d hd => ?_) (by rw [List.map_map, List.map_map]; rfl) (by rw [List.length_map]; omega)) (.dat _) (by rw [List.length_map]; omega) (.dl _)) (.dat _)) sc_law_reset.nd) ?_⟩
          · obtain ⟨s, hs, rfl⟩ := List.mem_map.mp hd
            exact ⟨_, _, rfl, fun _ _ _ _ _ => de_cP c1 hr (da_cons (de_var 0 rfl) (da_cons (de_var 8 rfl) (da_cons (de_var 6 rfl) da_nil))) ⟨wd, o, rows, s, ltr wd l, rfl, hR, ltr_mem hl, (hz.inm s hs).1, (hz.inm s hs).2, rfl⟩ (.dat _), rfl⟩
          rw [hx l]
          have hgm : good 60 (.lst ((L'.map (lrun wd rows s0)).map tI)) = true := good_lst fun d hd => by
            obtain ⟨q, _, rfl⟩ := List.mem_map.mp hd
            exact good_tI _ (by decide)
          have hgp : good 60 (tI (lrun wd rows s0 (u ++ [l]))) = true := good_tI _ (by decide)
          by_cases hin : lrun wd rows s0 (u ++ [l]) ∈ L'.map (lrun wd rows s0)
          · have hadd : BF.add1 (lstep wd rows) s0 L' u l = L' := BF.add1_old hin
            rw [hadd] at I2
            refine ex_ifN (dt_to (dt_notInD (d := tI (lrun wd rows s0 (u ++ [l]))) hr.u65 (de_var 7 rfl) (de_var 3 rfl) (.dat _) (.lst rfl) hgp hgm) (by rw [any_tI, decide_eq_true hin]; rfl)) (ex_nil ⟨L', _, _, _, rfl, I2, hu', hno'⟩)
          · have hadd : BF.add1 (lstep wd rows) s0 L' u l = L' ++ [u ++ [l]] := BF.add1_new hin
            have hu2 := BF.add1_at (step := lstep wd rows) (s0 := s0) (l := l) hu'
            rw [hadd] at I2 hu2
            have hlen : (lw wd u).length ≤ 2000 := by
              have := I'.len i u hu'
              rw [lw, List.length_map]
              omega
            refine ex_ifT (dt_to (dt_notInD (d := tI (lrun wd rows s0 (u ++ [l]))) hr.u65 (de_var 7 rfl) (de_var 3 rfl) (.dat _) (.lst rfl) hgp hgm) (by rw [any_tI, decide_eq_false hin]; rfl)) ?_
            refine ex_cons (ds_expr (de_append (n := 2) (d := tI (lrun wd rows s0 (u ++ [l]))) (de_var 3 rfl) (de_var 7 rfl) rfl rfl (by rw [List.length_map, List.length_map]; omega))) ?_
            refine ex_cons (ds_expr (de_append (n := 1) (d := wrD wd rows s0 (u ++ [l])) (de_var 2 rfl) (de_tup (ds := [tI (lrun wd rows s0 (u ++ [l])), .lst ((lw wd (u ++ [l])).map tI)]) (da_cons (de_var 7 rfl) (da_cons (de_to (u' := .dat (.lst ((lw wd (u ++ [l])).map tI))) (de_cat (de_var 5 rfl) (de_lst (da_cons (de_var 6 rfl) da_nil) (.dl _)) (.dat _) (.dat _) (by rw [List.length_map]; simp; omega) (.dl _)) (by rw [lw_snoc, List.map_append]; rfl)) da_nil))) rfl rfl (by rw [wrF, List.length_map, List.length_drop]; omega))) (ex_nil (ex_nil ?_))
            refine ⟨L' ++ [u ++ [l]], some (.dat (tI (ltr wd l))), some (.dat (tI (lrun wd rows s0 (u ++ [l])))), t8, ?_, I2, hu2, ?_⟩
            · have e4 : wrF wd rows s0 (L' ++ [u ++ [l]]) (i + 1) = wrF wd rows s0 L' (i + 1) ++ [wrD wd rows s0 (u ++ [l])] := by
                unfold wrF
                rw [List.drop_append_of_le_length (by omega), List.map_append]
                rfl
              rw [e4, List.map_append, List.map_append]
              rfl
            · intro j v hj hv
              rw [List.getElem?_append_left (by omega)] at hv
              exact hno' j v hj hv
        · rintro S ⟨L', t6, t7, t8, rfl, I', hu', hno'⟩
          rw [List.length_map] at I'
          exact ex_nil ⟨n - 1, by omega, L', i + 1, _, _, t6, t7, t8, rfl, I'.turn (List.getElem?_eq_some_iff.mp hu').1, by omega, hno'⟩
end K82
namespace K82
open PySem PySem.Spec PyProof.Rows L2 DL
variable {P : Program} {w : World} {K : PySem.W.Frag} {mg : Str → Option Value} {base : Heap} {C : Addr}
/-! ### a comprehension each turn of which changes the pot -/
def iterP (f : Pot → D × Pot) : Nat → Pot → List D × Pot
  | 0, p => ([], p)
  | k + 1, p => ((f p).1 :: (iterP f k (f p).2).1, (iterP f k (f p).2).2)
theorem iterP_ok {f : Pot → D × Pot} (hf : ∀ p, p.ok → (f p).2.ok) : ∀ (k : Nat) (p : Pot), p.ok → (iterP f k p).2.ok
  | 0, _, h => h
  | k + 1, p, h => iterP_ok hf k _ (hf p h)
theorem iterP_len {f : Pot → D × Pot} : ∀ (k : Nat) (p : Pot), (iterP f k p).1.length = k
  | 0, _ => rfl
  | k + 1, p => by
    show (_ :: (iterP f k (f p).2).1).length = _
    rw [List.length_cons, iterP_len k]
theorem iterP_mem {f : Pot → D × Pot} {Q : D → Prop} (hf : ∀ p, Q (f p).1) : ∀ (k : Nat) (p : Pot), ∀ d ∈ (iterP f k p).1, Q d
  | 0, _, d, h => by cases h
  | k + 1, p, d, h => by
    have h : d ∈ (f p).1 :: (iterP f k (f p).2).1 := h
    rcases List.mem_cons.mp h with rfl | h
    · exact hf p
    · exact iterP_mem hf k _ d h
theorem lc_pot {X : Cx} {scope : Scope} {T : Tgt} {elt : Expr} {g : List (Option U)} {f : Pot → D × Pot} {mr : List (Option MO)} (hf : ∀ p, p.ok → (f p).2.ok) : ∀ (k : Nat) (ds : List D) (p : Pot), ds.length = k → p.ok → (∀ (p : Pot), p.ok → ∀ d ∈ ds, ∃ S1 S3, asg T d ⟨g, some (.lst p.ds) :: mr⟩ = some S1 ∧ BE X scope elt S1 (.dat (f p).1) S3 ∧ S3.m = some (.lst (f p).2.ds) :: mr) →
    LcR X scope T [] elt g ds (some (.lst p.ds) :: mr) (iterP f k p).1 (some (.lst (iterP f k p).2.ds) :: mr)
  | 0, [], _, _, _, _ => .nil
  | k + 1, d :: ds, p, hk, hp, h => by
    obtain ⟨S1, S3, h1, h2, h3⟩ := h p hp d List.mem_cons_self
    refine .yes h1 bt_nil h2 ?_
    rw [h3]
    exact lc_pot hf k ds _ (by simpa using hk) (hf p hp) fun p hp d hd => h p hp d (List.mem_cons_of_mem _ hd)
/-! ### _law_values -/
abbrev lets0 (wd : Nat) : List D := (allL wd).map tI
def wordP (wd most : Nat) (p : Pot) : D × Pot := (.lst ((wordF (allL wd) (draw (most + 1) p).1 (draw (most + 1) p).2).map tI), (draws (allL wd).length (draw (most + 1) p).1 (draw (most + 1) p).2).2)
def wordL (wd most : Nat) (p : Pot) : List D := (wordF (allL wd) (draw (most + 1) p).1 (draw (most + 1) p).2).map tI
theorem wordP_ok {wd most : Nat} {p : Pot} (h : p.ok) : (wordP wd most p).2.ok := draws_ok _ _ (draw_ok h)
def vals0 (wd : Nat) : List D := [.non, .int 0, .str "", .lst [], .tup [], .dic true [] [], .lst [.non], .lst [.int 0], .lst [.tup []], .lst [lI [0]], .lst [tI [2]], .lst [.tup [.bl true]], .lst [.str "0"], .lst (lets0 wd), .str "reset"]
def lstP (d : D) : D := match d with
  | .tup ds => .lst ds
  | d => d
def blE (d : D) : D := match d with
  | .int i => .bl (decide (i = 1))
  | d => d
def blP (d : D) : D := match d with
  | .tup ds => .tup (ds.map blE)
  | d => d
def vals1 (wd : Nat) (some : List D) : List D := [.lst some, .tup some, .lst (cutA some none (.some (-1))), .lst (cutA some (.some 1) none), .lst (some ++ cutA (lets0 wd) none (.some 1)), .lst (some ++ [.non]), .lst (some.map lstP)]
def vals2 (w1 w2 some : List D) : List D := [.lst (w1 ++ some ++ w2), .lst [.lst some], .lst (some ++ [tI [0, 0, 0, 0, 0]])]
def vals3 (wd : Nat) (some : List D) : List D := [.lst (some.map blP), .lst (List.replicate 300 (cutA (lets0 wd) none (.some 1))).flatten, .lst (List.replicate 301 (cutA (lets0 wd) (.some (-1)) none)).flatten]
def potV (wd : Nat) (p : Pot) : Pot := (iterP (wordP wd 9) 4 p).2
@[irreducible] def valsF (wd : Nat) (xs : List (List Int)) (p : Pot) : List D × Pot :=
  (vals0 wd ++ (iterP (wordP wd 9) 4 p).1 ++ vals1 wd (xs.map tI) ++ vals2 (wordL wd 3 (potV wd p)) (wordL wd 3 (wordP wd 3 (potV wd p)).2) (xs.map tI) ++ vals3 wd (xs.map tI), (wordP wd 3 (wordP wd 3 (potV wd p)).2).2)
theorem potV_ok {wd : Nat} {p : Pot} (h : p.ok) : (potV wd p).ok := iterP_ok (fun _ => wordP_ok) 4 p h
theorem wordL_len {wd most : Nat} {p : Pot} : (wordL wd most p).length ≤ most := by
  have := draw_lt (n := most + 1) (by omega) p
  unfold wordL wordF
  rw [List.length_map, List.length_map, draws_len]
  omega
def R_law_values (c ds : List D) (r : Res) (c' : List D) : Prop := ∃ (wd : Nat) (rows : List Row) (xs : List (List Int)) (p : Pot), c = p.ds ∧ ds = [modD wd rows, .lst (xs.map tI)] ∧ wd ≤ 4 ∧ xs.length ≤ 1000 ∧ (∀ l ∈ xs, l.length ≤ 1000) ∧ p.ok ∧
  r = .dat (.lst (valsF wd xs p).1) ∧ c' = (valsF wd xs p).2.ds
abbrev C_law_values (P : Program) (w : World) (K : PySem.W.Frag) (mg : Str → Option Value) (base : Heap) : Prop := CO P w K mg base 4 "_law_values" s_law_values p_law_values R_law_values
theorem g_law_values (M : Mod K mg) (c1 : C_law_word P w K mg base) : C_law_values P w K mg base := by
  refine calO (k := 3) M.law_values sc_law_values 0 (fun c ds r c' h => ?_) fun c ds r c' h f cdv A outer s H hr => ?_
  · obtain ⟨wd, rows, xs, p, rfl, rfl, _⟩ := h
    rfl
  · obtain ⟨wd, rows, xs, p, rfl, rfl, h4, hxl, hxs, hp, rfl, rfl⟩ := h
    have hal := allL_16 h4
    have hap := allL_pos wd
    have hdl : (xs.map tI).length ≤ 1000 := by rw [List.length_map]; exact hxl
    have hcut : ∀ (ds : List D) lo hi, (cutA ds lo hi).length ≤ ds.length := fun ds lo hi => cutA_le
    have hll : (lets0 wd).length ≤ 16 := by rw [List.length_map]; exact hal
    obtain ⟨q1, hq1⟩ : ∃ q, potV wd p = q := ⟨_, rfl⟩
    obtain ⟨v4, hv4⟩ : ∃ v, (iterP (wordP wd 9) 4 p).1 = v := ⟨_, rfl⟩
    have hv4l : v4.length = 4 := by rw [← hv4, iterP_len]
    obtain ⟨q2, hq2⟩ : ∃ q, (draws (allL wd).length (draw (3 + 1) q1).1 (draw (3 + 1) q1).2).2 = q := ⟨_, rfl⟩
    obtain ⟨w1, hw1⟩ : ∃ v, (wordF (allL wd) (draw (3 + 1) q1).1 (draw (3 + 1) q1).2).map tI = v := ⟨_, rfl⟩
    obtain ⟨q3, hq3⟩ : ∃ q, (draws (allL wd).length (draw (3 + 1) q2).1 (draw (3 + 1) q2).2).2 = q := ⟨_, rfl⟩
    obtain ⟨w2, hw2⟩ : ∃ v, (wordF (allL wd) (draw (3 + 1) q2).1 (draw (3 + 1) q2).2).map tI = v := ⟨_, rfl⟩
    have hvals : valsF wd xs p = (vals0 wd ++ v4 ++ vals1 wd (xs.map tI) ++ vals2 w1 w2 (xs.map tI) ++ vals3 wd (xs.map tI), q3) := by
      unfold valsF
      rw [hv4, hq1, show (wordP wd 3 q1).2 = q2 from hq2, show wordL wd 3 q1 = w1 from hw1, show wordL wd 3 q2 = w2 from hw2, show (wordP wd 3 q2).2 = q3 from hq3]
    have o1 : q1.ok := by rw [← hq1]; exact potV_ok hp
    have o2 : q2.ok := by rw [← hq2]; exact draws_ok _ _ (draw_ok o1)
    have l1 : w1.length ≤ 3 := by rw [← hw1]; exact wordL_len (wd := wd) (most := 3) (p := q1)
    have l2 : w2.length ≤ 3 := by rw [← hw2]; exact wordL_len (wd := wd) (most := 3) (p := q2)
    rw [hvals]
    refine Ex.runsO (ex_cons (ds_set (i := 3) (u := .dat (.lst (vals0 wd))) (de_lst (da_cons de_non (da_cons de_int (da_cons de_str (da_cons (de_lst da_nil (.dl _)) (da_cons (de_tup da_nil) (da_cons de_emp (da_cons (de_lst (da_cons de_non da_nil) (.dl _)) (da_cons (de_lst (da_cons de_int da_nil) (.dl _)) (da_cons (de_lst (da_cons (de_tup da_nil) da_nil) (.dl _)) (da_cons (de_lst (da_cons (de_lst (da_cons de_int da_nil) (.dl _)) da_nil) (.dl _)) (da_cons (de_lst (da_cons (de_tup (da_cons de_int da_nil)) da_nil) (.dl _)) (da_cons (de_lst (da_cons (de_tup (da_cons de_bl da_nil)) da_nil) (.dl _)) (da_cons (de_lst (da_cons de_str da_nil) (.dl _)) (da_cons (de_ixT (d := .lst (lets0 wd)) (de_var 1 rfl) de_int rfl) (da_cons de_str da_nil))))))))))))))) (.dl _)) sc_law_values.nd) ?_)
    refine ex_cons (ds_set (i := 3) (de_cat (de_var 3 rfl) (de_lc (own := [("_law_turn", 4)]) (T := .one 4) (m' := [some (.lst q1.ds)]) (es := v4) rfl sc_law_values.nd (di_rng (n := 4) M.blt.range de_int (by decide)) (blkOk_by (N := n_law_values) (sc := defScope s_law_values) (by decide +kernel)) rfl (fun _ _ _ _ _ => pg_name sc_law_values.nd rfl (.inl rfl)) (by rw [← hv4, ← hq1]; exact lc_pot (fun q hq => wordP_ok hq) 4 _ p rfl hp fun q hq d hd => ⟨_, _, rfl, fun _ _ _ _ _ => de_cO c1 hr (da_cons (de_var 0 rfl) (da_cons (de_ixT (d := .lst (lets0 wd)) (de_var 1 rfl) de_int rfl) (da_cons de_int da_nil))) rfl ⟨allL wd, 9, q, rfl, rfl, hap, hal, by decide, hq, rfl, rfl⟩ (.dat _), rfl⟩) (.dl _) (by decide)) (.dat _) (.dat _) ?_ (.dl _)) sc_law_values.nd) ?_
    · rw [hv4l]
      show 15 + 4 ≤ _
      decide
    have hsel : (vals0 wd ++ v4).length = 19 := by
      rw [List.length_append, hv4l]
      rfl
    refine ex_cons (ds_set (i := 3) (de_cat (es' := vals1 wd (xs.map tI)) (de_var 3 rfl) (de_lst (da_cons (de_var 2 rfl) (da_cons (de_tupleL M.blt.tuple (de_var 2 rfl) (.dat _)) (da_cons (de_slL (l := none) (h := some (-1)) (de_var 2 rfl) do_none (do_some (de_neg de_int)) (.dat _) (.dl _)) (da_cons (de_slL (l := some 1) (h := none) (de_var 2 rfl) (do_some de_int) do_none (.dat _) (.dl _)) (da_cons (de_cat (de_var 2 rfl) (de_slL (l := none) (h := some 1) (de_ixT (d := .lst (lets0 wd)) (de_var 1 rfl) de_int rfl) do_none (do_some de_int) (.dat _) (.dl _)) (.dat _) (.dat _) (by have := hcut (lets0 wd) none (some 1); omega) (.dl _)) (da_cons (de_cat (de_var 2 rfl) (de_lst (da_cons de_non da_nil) (.dl _)) (.dat _) (.dat _) (by simp at hdl ⊢; omega) (.dl _)) (da_cons (de_lcD (es := (xs.map tI).map lstP) [("_law_letter", 5)] lstP (T := .one 5) rfl sc_law_values.nd (di_lst (de_var 2 rfl)) (blkOk_by (N := n_law_values) (sc := defScope s_law_values) (by decide +kernel)) rfl (fun _ _ _ _ _ => pg_name sc_law_values.nd rfl (.inl rfl)) (fun d hd => ?_) rfl (by omega)) da_nil))))))) (.dl _)) (.dat _) (.dat _) ?_ (.dl _)) sc_law_values.nd) ?_
    · obtain ⟨q, _, rfl⟩ := List.mem_map.mp hd
      exact ⟨_, _, rfl, fun _ _ _ _ _ => de_listT M.blt.list (de_var 5 rfl) (.dl _), rfl⟩
    · rw [hsel]
      show 19 + 7 ≤ _
      decide
    refine ex_cons (ds_set (i := 3) (de_cat (es' := vals2 w1 w2 (xs.map tI)) (de_var 3 rfl) (de_lst (S1 := ⟨_, [some (.lst q3.ds)]⟩) (da_cons (S1 := ⟨_, [some (.lst q3.ds)]⟩) (de_cat (S1 := ⟨_, [some (.lst q2.ds)]⟩) (S2 := ⟨_, [some (.lst q3.ds)]⟩) (ds := w1 ++ xs.map tI) (es' := w2) (de_cat (S1 := ⟨_, [some (.lst q2.ds)]⟩) (S2 := ⟨_, [some (.lst q2.ds)]⟩) (ds := w1) (es' := xs.map tI) (de_cO (c' := q2.ds) (r := .dat (.lst w1)) c1 hr (da_cons (de_var 0 rfl) (da_cons (de_ixT (d := .lst (lets0 wd)) (de_var 1 rfl) de_int rfl) (da_cons de_int da_nil))) rfl ⟨allL wd, 3, q1, rfl, rfl, hap, hal, by decide, o1, by rw [hw1], by rw [hq2]⟩ (.dat _)) (de_var 2 rfl) (.dat _) (.dat _) (by omega) (.dl _)) (de_cO (c' := q3.ds) (r := .dat (.lst w2)) c1 hr (da_cons (de_var 0 rfl) (da_cons (de_ixT (d := .lst (lets0 wd)) (de_var 1 rfl) de_int rfl) (da_cons de_int da_nil))) rfl ⟨allL wd, 3, q2, rfl, rfl, hap, hal, by decide, o2, by rw [hw2], by rw [hq3]⟩ (.dat _)) (.dat _) (.dat _) (by rw [List.length_append]; omega) (.dl _)) (da_cons (de_lst (da_cons (de_var 2 rfl) da_nil) (.dl _)) (da_cons (de_cat (de_var 2 rfl) (de_lst (da_cons (de_tup (da_cons de_int (da_cons de_int (da_cons de_int (da_cons de_int (da_cons de_int da_nil)))))) da_nil) (.dl _)) (.dat _) (.dat _) (by simp at hdl ⊢; omega) (.dl _)) da_nil))) (.dl _)) (.dat _) (.dat _) ?_ (.dl _)) sc_law_values.nd) ?_
    · rw [List.length_append, hsel]
      show 19 + 7 + 3 ≤ _
      decide
    refine ex_ret (de_cat (es' := vals3 wd (xs.map tI)) (de_var 3 rfl) (de_lst (da_cons (de_lcD (es := (xs.map tI).map blP) [("_law_letter", 5)] blP (T := .one 5) rfl sc_law_values.nd (di_lst (de_var 2 rfl)) (blkOk_by (N := n_law_values) (sc := defScope s_law_values) (by decide +kernel)) rfl (fun _ _ _ _ _ => pg_name sc_law_values.nd rfl (.inl rfl)) (fun d hd => ?_) rfl (by omega)) (da_cons (de_rep (i := 300) (de_slL (l := none) (h := some 1) (de_ixT (d := .lst (lets0 wd)) (de_var 1 rfl) de_int rfl) do_none (do_some de_int) (.dat _) (.dl _)) de_int (.dat _) ⟨by decide, by decide, by have := hcut (lets0 wd) none (some 1); omega⟩ (.dl _)) (da_cons (de_rep (i := 301) (de_slL (l := some (-1)) (h := none) (de_ixT (d := .lst (lets0 wd)) (de_var 1 rfl) de_int rfl) (do_some (de_neg de_int)) do_none (.dat _) (.dl _)) de_int (.dat _) ⟨by decide, by decide, by have := hcut (lets0 wd) (some (-1)) none; omega⟩ (.dl _)) da_nil))) (.dl _)) (.dat _) (.dat _) ?_ (.dl _)) ⟨.dat, rfl⟩
    · obtain ⟨q, hq, rfl⟩ := List.mem_map.mp hd
      refine ⟨_, _, rfl, fun _ _ _ _ _ => de_to (u' := .dat (blP (tI q))) (de_tupleL M.blt.tuple (de_lcD (es := (q.map D.int).map blE) [("_law_bit", 6)] blE (T := .one 6) rfl sc_law_values.nd (di_tup (de_var 5 rfl)) (blkOk_in (N := n_law_values) (inS (defScope s_law_values) (cScope (firstE (binR (exOf (defBody s_law_values) 4))))) (by decide +kernel)) rfl (fun _ _ _ _ _ => pg_name sc_law_values.nd rfl (.inl rfl)) (fun d hd => ?_) rfl (by rw [List.length_map]; have := hxs q hq; omega)) (.dat _)) rfl, rfl⟩
      obtain ⟨i, _, rfl⟩ := List.mem_map.mp hd
      exact ⟨_, _, rfl, fun _ _ _ _ _ => de_eqI (de_var 6 rfl) de_int, rfl⟩
    · rw [List.length_append, List.length_append, hsel]
      show 19 + 7 + 3 + 3 ≤ _
      decide
theorem valsF_ok {wd : Nat} {xs : List (List Int)} {p : Pot} (h : p.ok) : (valsF wd xs p).2.ok := by
  unfold valsF
  dsimp only
  have h1 : (potV wd p).ok := potV_ok h
  generalize potV wd p = q at h1
  have h2 : (wordP wd 3 q).2.ok := wordP_ok h1
  generalize (wordP wd 3 q).2 = q2 at h2
  exact wordP_ok h2
end K82
namespace K82
open PySem PySem.Spec PyProof.Rows L2 DL
variable {P : Program} {w : World} {K : PySem.W.Frag} {mg : Str → Option Value} {base : Heap} {C : Addr}
/-! ### the values may be asked of -/
def repB : D → Bool
  | .non => true
  | .int i => decide (i.natAbs ≤ 1000)
  | .str x => decide ((reprText x).length ≤ 1000)
  | d => mild [16, 16] d && isSeqD d
theorem repB_ok {d : D} (h : repB d = true) : RepL d := by
  unfold repB at h
  split at h
  · exact .non
  · exact .int (of_decide_eq_true h)
  · have := of_decide_eq_true h
    exact .str (by omega)
  · simp only [Bool.and_eq_true] at h
    exact .mild h.1 h.2 (by decide) (by decide)
def okEB : D → Bool
  | .tup es => decide (es.length ≤ 1000) && es.all fun e => tyN e != ""
  | d => tyN d != ""
theorem okEB_ok {d : D} (h : okEB d = true) : okE d := by
  cases d with
  | tup es =>
    simp only [okEB, Bool.and_eq_true, decide_eq_true_eq, List.all_eq_true, bne_iff_ne, ne_eq] at h
    exact ⟨ok_tup, fun es' e => by cases e; exact ⟨by omega, h.2⟩⟩
  | _ => exact ⟨by unfold okD; simpa [okEB] using h, fun _ e => nomatch e⟩
def chkE (wd : Nat) (d : D) : Bool := repB d && (PyData.canLay0 (.str (reprD d)) && (okEB d && (((strsL wd).any fun z => eqD z (.str (reprD d))) == isLetD wd d)))
theorem chkE_ok {wd : Nat} {d : D} (h : chkE wd d = true) : okLE wd d := by
  unfold chkE at h
  simp only [Bool.and_eq_true, beq_iff_eq] at h
  exact ⟨repB_ok h.1, h.2.1, okEB_ok h.2.2.1, h.2.2.2⟩
def elems0 : List D := [.non, .int 0, .tup [], lI [0], tI [2], .tup [.bl true], .str "0", tI [0, 0, 0, 0, 0]]
def elems1 (l : List Int) : List D := [tI l, lstP (tI l), blP (tI l)]
theorem chk_all : ((List.range 3).all fun wd => (elems0 ++ (allL wd).flatMap elems1).all (chkE wd)) = true := by decide +kernel
theorem okE0 {wd : Nat} (h : wd ≤ 2) {d : D} (hd : d ∈ elems0) : okLE wd d :=
  chkE_ok (List.all_eq_true.mp (List.all_eq_true.mp chk_all wd (List.mem_range.mpr (by omega))) d (List.mem_append_left _ hd))
theorem okE1 {wd : Nat} (h : wd ≤ 2) {l : List Int} (hl : l ∈ allL wd) {d : D} (hd : d ∈ elems1 l) : okLE wd d :=
  chkE_ok (List.all_eq_true.mp (List.all_eq_true.mp chk_all wd (List.mem_range.mpr (by omega))) d (List.mem_append_right _ (List.mem_flatMap.mpr ⟨l, hl, hd⟩)))
/-- a list is no letter -/
theorem strs_first : ((List.range 3).all fun wd => (allL wd).all fun l => (reprD (tI l)).cps[0]? != some 91) = true := by decide +kernel
theorem okE_lst {wd : Nat} (h : wd ≤ 2) {xs : List (List Int)} (hl : xs.length ≤ 1000) (hx : ∀ l ∈ xs, l ∈ allL wd) : okLE wd (.lst (xs.map tI)) := by
  have hm : ∀ d ∈ xs.map tI, okLE wd d := fun d hd => by
    obtain ⟨l, hl, rfl⟩ := List.mem_map.mp hd
    exact okE1 h (hx l hl) (by simp [elems1])
  refine ⟨.mild (r := [1000, 16]) (mild_lst (by rw [List.length_map]; exact hl) fun d hd => ?_) rfl (by decide) (by decide), ?_, ⟨ok_lst, fun _ e => nomatch e⟩, ?_⟩
  · obtain ⟨l, hl, rfl⟩ := List.mem_map.mp hd
    obtain ⟨h1, h2⟩ := letters_lets l (hx l hl)
    refine mild_tI (by omega) fun i hi => ?_
    rcases h1 i hi with rfl | rfl <;> decide
  · simp only [PyData.canLay0]
    refine repr_lst_ok _ fun d hd => ?_
    have := (hm d hd).lay
    simpa only [PyData.canLay0] using this
  · have e : isLetD wd (.lst (xs.map tI)) = false := rfl
    rw [e]
    refine List.any_eq_false.mpr fun z hz => ?_
    obtain ⟨l, hl, rfl⟩ := List.mem_map.mp hz
    intro q
    have q2 : reprD (tI l) = reprD (.lst (xs.map tI)) := by
      have := (eqD_iff (.str (reprD (tI l))) (.str (reprD (.lst (xs.map tI)))) rfl rfl).mp q
      injection this
    have f := List.all_eq_true.mp (List.all_eq_true.mp strs_first wd (List.mem_range.mpr (by omega))) l hl
    rw [q2, repr_lst_first] at f
    simp at f
theorem okWL_lst {wd : Nat} {ds : List D} (hl : ds.length ≤ 10000) (h : ∀ d ∈ ds, okLE wd d) : okWL wd (.lst ds) := ⟨ok_lst, (fun _ e => nomatch e), fun es hs => by
  rcases hs with e | e
  · cases e; exact ⟨hl, h⟩
  · cases e⟩
theorem okWL_tup {wd : Nat} {ds : List D} (hl : ds.length ≤ 10000) (h : ∀ d ∈ ds, okLE wd d) : okWL wd (.tup ds) := ⟨ok_tup, (fun _ e => nomatch e), fun es hs => by
  rcases hs with e | e
  · cases e
  · cases e; exact ⟨hl, h⟩⟩
theorem okWL_no {wd : Nat} {v : D} (h : okD v) (hr : ∀ ds, v ≠ .rol ds) (hn : ∀ ds, ¬ sqOf v ds) : okWL wd v := ⟨h, hr, fun ds hs => absurd hs (hn ds)⟩
theorem wordF_mem {L : List (List Int)} {k : Nat} {p : Pot} (h0 : 0 < L.length) : ∀ l ∈ wordF L k p, l ∈ L := fun l hl => by
  obtain ⟨i, hi, rfl⟩ := List.mem_map.mp hl
  have := draws_lt h0 k p i hi
  rw [getD_lt this]
  exact List.getElem_mem _
theorem vals_ok {wd : Nat} (h : wd ≤ 2) {xs : List (List Int)} (hx : ∀ l ∈ xs, l ∈ allL wd) (hl : xs.length ≤ 1000) (p : Pot) : ∀ v ∈ (valsF wd xs p).1, okWL wd v := by
  have hal := allL_16 (wd := wd) (by omega)
  have hap := allL_pos wd
  have hm : ∀ d ∈ xs.map tI, okLE wd d := fun d hd => by
    obtain ⟨l, hl, rfl⟩ := List.mem_map.mp hd
    exact okE1 h (hx l hl) (by simp [elems1])
  have hL : ∀ d ∈ lets0 wd, okLE wd d := fun d hd => by
    obtain ⟨l, hl, rfl⟩ := List.mem_map.mp hd
    exact okE1 h hl (by simp [elems1])
  have hLl : (lets0 wd).length ≤ 16 := by rw [List.length_map]; exact hal
  have hw : ∀ (most : Nat) (q : Pot), ∀ d ∈ wordL wd most q, okLE wd d := fun most q d hd => by
    obtain ⟨l, hl, rfl⟩ := List.mem_map.mp hd
    exact okE1 h (wordF_mem hap l hl) (by simp [elems1])
  have hml : (xs.map tI).length ≤ 1000 := by rw [List.length_map]; exact hl
  have one : ∀ d, d ∈ elems0 → okWL wd (.lst [d]) := fun d hd => okWL_lst (by simp) fun e he => by
    rw [List.mem_singleton.mp he]
    exact okE0 h hd
  have rep : ∀ (n : Nat) (ds : List D), n ≤ 301 → ds.length ≤ 16 → (∀ d ∈ ds, okLE wd d) → okWL wd (.lst (List.replicate n ds).flatten) := fun n ds hn hd hk => by
    refine okWL_lst ?_ fun d hd => ?_
    · rw [List.length_flatten, List.map_replicate, List.sum_replicate_nat]
      have : n * ds.length ≤ 301 * 16 := Nat.mul_le_mul hn hd
      omega
    · obtain ⟨es, he, hd⟩ := List.mem_flatten.mp hd
      rw [(List.mem_replicate.mp he).2] at hd
      exact hk d hd
  intro v hv
  unfold valsF at hv
  simp only at hv
  rcases List.mem_append.mp hv with hv | hv
  · rcases List.mem_append.mp hv with hv | hv
    · rcases List.mem_append.mp hv with hv | hv
      · rcases List.mem_append.mp hv with hv | hv
        · simp only [vals0, List.mem_cons, List.not_mem_nil, or_false] at hv
          rcases hv with rfl | rfl | rfl | rfl | rfl | rfl | rfl | rfl | rfl | rfl | rfl | rfl | rfl | rfl | rfl
          · exact okWL_no ok_non (fun _ e => nomatch e) fun ds hs => by rcases hs with e | e <;> cases e
          · exact okWL_no ok_int (fun _ e => nomatch e) fun ds hs => by rcases hs with e | e <;> cases e
          · exact okWL_no ok_str (fun _ e => nomatch e) fun ds hs => by rcases hs with e | e <;> cases e
          · exact okWL_lst (by simp) fun d hd => nomatch hd
          · exact okWL_tup (by simp) fun d hd => nomatch hd
          · exact okWL_no (by simp [okD, tyN]) (fun _ e => nomatch e) fun ds hs => by rcases hs with e | e <;> cases e
          · exact one _ (by simp [elems0])
          · exact one _ (by simp [elems0])
          · exact one _ (by simp [elems0])
          · exact one _ (by simp [elems0])
          · exact one _ (by simp [elems0])
          · exact one _ (by simp [elems0])
          · exact one _ (by simp [elems0])
          · exact okWL_lst (by omega) hL
          · exact okWL_no ok_str (fun _ e => nomatch e) fun ds hs => by rcases hs with e | e <;> cases e
        · refine iterP_mem (Q := fun d => okWL wd d) (fun q => okWL_lst ?_ (hw 9 q)) 4 p v hv
          have := wordL_len (wd := wd) (most := 9) (p := q)
          show (wordL wd 9 q).length ≤ _
          omega
      · simp only [vals1, List.mem_cons, List.not_mem_nil, or_false] at hv
        rcases hv with rfl | rfl | rfl | rfl | rfl | rfl | rfl
        · exact okWL_lst (by omega) hm
        · exact okWL_tup (by omega) hm
        · exact okWL_lst (Nat.le_trans cutA_le (by omega)) fun d hd => hm d (cutA_mem hd)
        · exact okWL_lst (Nat.le_trans cutA_le (by omega)) fun d hd => hm d (cutA_mem hd)
        · refine okWL_lst ?_ fun d hd => ?_
          · rw [List.length_append]
            have := cutA_le (xs := lets0 wd) (lo := none) (hi := some 1)
            omega
          · rcases List.mem_append.mp hd with hd | hd
            · exact hm d hd
            · exact hL d (cutA_mem hd)
        · refine okWL_lst (by rw [List.length_append]; simp at hml ⊢; omega) fun d hd => ?_
          rcases List.mem_append.mp hd with hd | hd
          · exact hm d hd
          · rw [List.mem_singleton.mp hd]
            exact okE0 h (by simp [elems0])
        · refine okWL_lst (by rw [List.length_map]; omega) fun d hd => ?_
          obtain ⟨e, he, rfl⟩ := List.mem_map.mp hd
          obtain ⟨q, hq, rfl⟩ := List.mem_map.mp he
          exact okE1 h (hx q hq) (by simp [elems1])
    · have l1 := wordL_len (wd := wd) (most := 3) (p := potV wd p)
      have l2 := wordL_len (wd := wd) (most := 3) (p := (wordP wd 3 (potV wd p)).2)
      simp only [vals2, List.mem_cons, List.not_mem_nil, or_false] at hv
      rcases hv with rfl | rfl | rfl
      · refine okWL_lst (by rw [List.length_append, List.length_append]; omega) fun d hd => ?_
        rcases List.mem_append.mp hd with hd | hd
        · rcases List.mem_append.mp hd with hd | hd
          · exact hw 3 _ d hd
          · exact hm d hd
        · exact hw 3 _ d hd
      · exact okWL_lst (by simp) fun d hd => by
          rw [List.mem_singleton.mp hd]
          exact okE_lst h hl hx
      · refine okWL_lst (by rw [List.length_append]; simp at hml ⊢; omega) fun d hd => ?_
        rcases List.mem_append.mp hd with hd | hd
        · exact hm d hd
        · rw [List.mem_singleton.mp hd]
          exact okE0 h (by simp [elems0])
  · simp only [vals3, List.mem_cons, List.not_mem_nil, or_false] at hv
    rcases hv with rfl | rfl | rfl
    · refine okWL_lst (by rw [List.length_map]; omega) fun d hd => ?_
      obtain ⟨e, he, rfl⟩ := List.mem_map.mp hd
      obtain ⟨q, hq, rfl⟩ := List.mem_map.mp he
      exact okE1 h (hx q hq) (by simp [elems1])
    · exact rep 300 _ (by decide) (Nat.le_trans cutA_le hLl) fun d hd => hL d (cutA_mem hd)
    · exact rep 301 _ (by decide) (Nat.le_trans cutA_le hLl) fun d hd => hL d (cutA_mem hd)
end K82
namespace K82
open PySem PySem.Spec PyProof.Rows L2 DL
variable {P : Program} {w : World} {K : PySem.W.Frag} {mg : Str → Option Value} {base : Heap} {C : Addr}
/-! ### _law_values_right -/
theorem kw_is_reset : KwOk "is_reset" s_is_reset ["value", "machine"] p_is_reset [1, 0] := fun _ _ _ _ _ _ us hl => match us, hl with | [_, _], _ => rfl
def R_law_values_right (C : Addr) (c ds : List D) (r : Res) (c' : List D) : Prop := ∃ (wd o : Nat) (rows : List Row) (xs : List (List Int)) (p : Pot), c = p.ds ∧ ds = [modD wd rows, macD C wd o rows, .lst (xs.map tI)] ∧ RowsOk wd o rows ∧ wd ≤ 2 ∧ (∀ l ∈ xs, l ∈ allL wd) ∧ xs.length ≤ 1000 ∧ p.ok ∧ r = .dat (.bl true) ∧ c' = (valsF wd xs p).2.ds
abbrev C_law_values_right (P : Program) (w : World) (K : PySem.W.Frag) (mg : Str → Option Value) (base : Heap) (C : Addr) : Prop := CO P w K mg base 7 "_law_values_right" s_law_values_right p_law_values_right (R_law_values_right C)
theorem g_law_values_right (M : Mod K mg) (c1 : C_law_values P w K mg base) (c2 : C_law_is_reset P w K mg base) (c3 : C_is_reset P w K mg base C) : C_law_values_right P w K mg base C := by
  refine calO (k := 6) M.law_values_right sc_law_values_right 0 (fun c ds r c' h => ?_) fun c ds r c' h f cdv A outer s H hr => ?_
  · obtain ⟨wd, o, rows, xs, p, rfl, rfl, _⟩ := h
    rfl
  · obtain ⟨wd, o, rows, xs, p, rfl, rfl, hR, h2, hx, hxl, hp, rfl, rfl⟩ := h
    have hvals := vals_ok h2 hx hxl p
    have hxs : ∀ l ∈ xs, l.length ≤ 1000 := fun l hl => by
      have := (letters_lets l (hx l hl)).2
      omega
    refine Ex.runsO (ex_forI (T := .one 4) (fun i S => ∃ t4 t5, S = ⟨[some (.own 0), some (.dat (modD wd rows)), some (.dat (macD C wd o rows)), some (.dat (.lst (xs.map tI))), t4, t5], [some (.lst (valsF wd xs p).2.ds)]⟩) (ds := (valsF wd xs p).1) rfl (di_lst (de_cO c1 hr (da_cons (de_var 0 rfl) (da_cons (de_var 1 rfl) (da_cons (de_var 3 rfl) da_nil))) rfl ⟨wd, rows, xs, p, rfl, rfl, by omega, hxl, hxs, hp, rfl, rfl⟩ (.dat _))) (pg_name sc_law_values_right.nd rfl (.inl rfl)) ⟨none, none, rfl⟩ ?_ ?_)
    · rintro i d S hd ⟨t4, t5, rfl⟩
      have hv := hvals d (List.mem_of_getElem? hd)
      have hmild : mild [2] (.lst [.bl (isRs wd rows d), .bl (isRs wd rows d)]) = true := mild_lst (by simp) fun e he => by
        simp at he
        rw [he]
        exact mild_bl
      have hia : R_is_reset C [macD C wd o rows, d] (.dat (.bl (isRs wd rows d))) := ⟨wd, o, rows, d, rfl, hR, hv.to, rfl⟩
      refine ⟨_, rfl, ex_cons (ds_set (i := 5) (de_cP c2 hr (da_cons (de_var 1 rfl) (da_cons (de_var 4 rfl) da_nil)) ⟨wd, o, rows, d, rfl, hR, h2, hv, rfl⟩ (.dat _)) sc_law_values_right.nd) ?_⟩
      refine ex_ifN (dt_to (dt_neS (de_repr hr.gd hr.u64 M.blt.repr (de_lst (da_cons (de_cP c3 hr (da_cons (de_var 2 rfl) (da_cons (de_var 4 rfl) da_nil)) hia (.dat _)) (da_cons (de_cPK (ix := [1, 0]) (ks := ["value", "machine"]) (ds := [d, macD C wd o rows]) c3 hr (dk_cons (de_var 4 rfl) (dk_cons (de_var 2 rfl) dk_nil)) hia (.dat _) kw_is_reset) da_nil)) (.dl _)) (.dat _) hmild) (de_repr hr.gd hr.u64 M.blt.repr (de_lst (da_cons (de_var 5 rfl) (da_cons (de_var 5 rfl) da_nil)) (.dl _)) (.dat _) hmild)) (by simp)) ?_
      exact ex_nil ⟨_, _, rfl⟩
    · rintro S ⟨t4, t5, rfl⟩
      exact ex_ret de_bl ⟨.dat, rfl⟩
end K82
namespace BF
theorem num_longer {k : Nat} : ∀ (n : Nat) (u v : List Nat), v.length ≤ n → (∀ x ∈ v, x < k) → v.length < u.length → num k v < num k u := by
  intro n
  induction n with
  | zero =>
    intro u v hn hv h
    have : v = [] := List.eq_nil_of_length_eq_zero (by omega)
    subst this
    rcases List.eq_nil_or_concat u with rfl | ⟨u0, l, rfl⟩
    · simp at h
    · rw [List.concat_eq_append, num_snoc]
      show 0 < _
      omega
  | succ n ih =>
    intro u v hn hv h
    rcases List.eq_nil_or_concat u with rfl | ⟨u0, l, rfl⟩
    · simp at h
    · rcases List.eq_nil_or_concat v with rfl | ⟨v0, l', rfl⟩
      · rw [List.concat_eq_append, num_snoc]
        show 0 < _
        omega
      · rw [List.concat_eq_append] at h ⊢
        rw [List.concat_eq_append] at hn hv h ⊢
        rw [List.length_append, List.length_append] at h
        rw [List.length_append] at hn
        simp at h hn
        exact num_lt (ih u0 v0 (by omega) (fun x hx => hv x (List.mem_append_left _ hx)) (by omega)) (hv l' (by simp))
/-- the least word is no longer than another -/
theorem Least.short {ν : Type} {step : ν → Nat → ν} {s0 : ν} {k : Nat} {p : ν → Bool} {u v : List Nat} (l : Least step s0 k p u) (hv : ∀ x ∈ v, x < k) (h : p (run step s0 v) = true) : u.length ≤ v.length := by
  refine Nat.le_of_not_lt fun q => ?_
  have h1 := num_longer v.length u v (Nat.le_refl _) hv q
  have h2 := l.least v hv h
  omega
end BF
namespace K82
open PySem PySem.Spec PyProof.Rows L2 DL
/-! ### some reset word -/
theorem lrun_app {wd : Nat} {rows : List Row} {lot : List Int} {u v : List Nat} : lrun wd rows lot (u ++ v) = lrun wd rows (lrun wd rows lot u) v := by
  unfold lrun BF.run
  rw [List.foldl_append]
theorem meet_len2 {wd o : Nat} {rows : List Row} (h : RowsOk wd o rows) {a b : Nat} (ha : a < rows.length) (hb : b < rows.length) {u : List Nat} (e : meetW wd rows a b = some u) : u.length ≤ rows.length * rows.length ∧ ∀ x ∈ u, x < (allL wd).length := by
  have k := okLot_two ha hb
  have I := lotsF_inv h k
  have hu := List.mem_of_find?_eq_some e
  refine ⟨?_, I.dig u hu⟩
  obtain ⟨j, hj, rfl⟩ := List.getElem_of_mem hu
  have h1 := I.len j _ (List.getElem?_eq_getElem hj)
  have h2 := l_card h k _ _ _ I
  have : j < (lotsF wd rows (sset [(a : Int), (b : Int)])).length := hj
  omega
theorem anyF_some {wd o : Nat} {rows : List Row} (h : RowsOk wd o rows) : ∀ (f : Nat) (lot : List Int) (acc v : List Nat), okG rows.length lot → lot.length ≤ f → (∀ x ∈ acc, x < (allL wd).length) → acc.length + rows.length * rows.length * f ≤ rows.length * rows.length * rows.length → anyF wd rows f lot acc = some v →
    ∃ u, v = acc ++ u ∧ (lrun wd rows lot u).length = 1 ∧ (∀ x ∈ v, x < (allL wd).length) ∧ v.length ≤ rows.length * rows.length * rows.length
  | 0, lot, acc, v, k, hl, ha, hz, e => by
    have : 0 < lot.length := List.length_pos_iff.mpr k.ne
    omega
  | f + 1, lot, acc, v, k, hl, ha, hz, e => by
    have h0 : 0 < lot.length := List.length_pos_iff.mpr k.ne
    by_cases h1 : lot.length ≤ 1
    · rw [anyF_one h1] at e
      injection e with e
      subst e
      exact ⟨[], by simp, by show lot.length = 1; omega, ha, Nat.le_trans (Nat.le_add_right _ _) hz⟩
    · match lot, h1, hl, k with
      | a :: b :: rest, _, hl, k =>
        rw [anyF_turn] at e
        have ha1 := k.inm a (by simp)
        have hb1 := k.inm b (by simp)
        cases em : meetW wd rows a.toNat b.toNat with
        | none => rw [em] at e; cases e
        | some u =>
          rw [em] at e
          have e : anyF wd rows f (lrun wd rows (a :: b :: rest) u) (acc ++ u) = some v := e
          obtain ⟨u1, u2⟩ := meet_len2 h (by omega) (by omega) em
          have hme := meet_srun h em
          have ea : ((a.toNat : Nat) : Int) = a := by omega
          have eb : ((b.toNat : Nat) : Int) = b := by omega
          rw [ea, eb] at hme
          have hless := lot_less h k u2 hme
          obtain ⟨t, t1, t2, t3, t4⟩ := anyF_some h f _ (acc ++ u) v (okG_run h u k u2) (by omega) (fun x hx => by
            rcases List.mem_append.mp hx with q | q
            · exact ha x q
            · exact u2 x q) (by rw [List.length_append]; rw [Nat.mul_add, Nat.mul_one] at hz; omega) e
          exact ⟨u ++ t, by rw [t1, List.append_assoc], by rw [lrun_app]; exact t2, t3, t4⟩
      | [], h1, _, _ => exact absurd (Nat.zero_le _) h1
      | [a], h1, _, _ => exact absurd (Nat.le_refl _) h1
theorem anyF_none {wd o : Nat} {rows : List Row} (h : RowsOk wd o rows) : ∀ (f : Nat) (lot : List Int) (acc : List Nat), okG rows.length lot → anyF wd rows f lot acc = none → ∃ a b : Nat, a < rows.length ∧ b < rows.length ∧ meetW wd rows a b = none
  | 0, _, _, _, e => nomatch e
  | f + 1, lot, acc, k, e => by
    by_cases h1 : lot.length ≤ 1
    · rw [anyF_one h1] at e
      cases e
    · match lot, h1, k with
      | a :: b :: rest, _, k =>
        rw [anyF_turn] at e
        have ha1 := k.inm a (by simp)
        have hb1 := k.inm b (by simp)
        cases em : meetW wd rows a.toNat b.toNat with
        | none => exact ⟨a.toNat, b.toNat, by omega, by omega, em⟩
        | some u =>
          rw [em] at e
          have e : anyF wd rows f (lrun wd rows (a :: b :: rest) u) (acc ++ u) = none := e
          obtain ⟨u1, u2⟩ := meet_len h (by omega) (by omega) em
          exact anyF_none h f _ _ (okG_run h u k u2) e
      | [], h1, _ => exact absurd (Nat.zero_le _) h1
      | [a], h1, _ => exact absurd (Nat.le_refl _) h1
/-- what any_reset hands back resets -/
theorem any_some {wd o : Nat} {rows : List Row} (h : RowsOk wd o rows) (h0 : 0 < rows.length) {v : List Nat} (e : anyW wd rows = some v) : (lrun wd rows (allS rows.length) v).length = 1 ∧ (∀ x ∈ v, x < (allL wd).length) ∧ v.length ≤ rows.length * rows.length * rows.length := by
  obtain ⟨u, h1, h2, h3, h4⟩ := anyF_some h rows.length (allS rows.length) [] v (okG_all h0) (by rw [allS_len]; exact Nat.le_refl _) (fun x hx => nomatch hx) (by simp) e
  rw [List.nil_append] at h1
  subst h1
  exact ⟨h2, h3, h4⟩
theorem any_none {wd o : Nat} {rows : List Row} (h : RowsOk wd o rows) (h0 : 0 < rows.length) (e : anyW wd rows = none) : ∃ a b : Nat, a < rows.length ∧ b < rows.length ∧ meetW wd rows a b = none := anyF_none h _ _ _ (okG_all h0) e
/-- a word that resets brings each two states together -/
theorem reset_meets {wd o : Nat} {rows : List Row} (h : RowsOk wd o rows) {v : List Nat} (hv : ∀ x ∈ v, x < (allL wd).length) (e : (lrun wd rows (allS rows.length) v).length = 1) {a b : Nat} (ha : a < rows.length) (hb : b < rows.length) : meetW wd rows a b ≠ none := fun q => by
  have hn := meet_never h ha hb q v hv
  rw [prun_srun] at hn
  have h1 : srun wd rows a v ∈ lrun wd rows (allS rows.length) v := (mem_lrun v _ _).mpr ⟨a, allS_mem.mpr ⟨by omega, by omega⟩, rfl⟩
  have h2 : srun wd rows b v ∈ lrun wd rows (allS rows.length) v := (mem_lrun v _ _).mpr ⟨b, allS_mem.mpr ⟨by omega, by omega⟩, rfl⟩
  obtain ⟨x, hx⟩ := List.length_eq_one_iff.mp e
  rw [hx] at h1 h2
  have e1 := List.mem_singleton.mp h1
  have e2 := List.mem_singleton.mp h2
  have : eqP (srun wd rows a v, srun wd rows b v) = true := by
    unfold eqP
    simp only
    rw [e1, e2]
    exact beq_self_eq_true _
  rw [this] at hn
  cases hn
theorem any_iff {wd o : Nat} {rows : List Row} (h : RowsOk wd o rows) (h0 : 0 < rows.length) (F : FewL wd rows) : anyW wd rows = none ↔ resetW wd rows = none := by
  constructor
  · intro e
    obtain ⟨a, b, ha, hb, q⟩ := any_none h h0 e
    cases e2 : resetW wd rows with
    | none => rfl
    | some u =>
      have l := reset_least F e2
      exact absurd q (reset_meets h l.dig (by simpa using l.holds) ha hb)
  · intro e
    cases e2 : anyW wd rows with
    | none => rfl
    | some u =>
      obtain ⟨h1, h2, _⟩ := any_some h h0 e2
      have := reset_never F e u h2
      unfold one1 at this
      rw [h1] at this
      cases this
theorem apart_reset {wd o : Nat} {rows : List Row} (h : RowsOk wd o rows) (h0 : 0 < rows.length) {v : List Nat} (hv : ∀ x ∈ v, x < (allL wd).length) (e : (lrun wd rows (allS rows.length) v).length = 1) : apartF wd rows = [] := by
  refine List.eq_nil_iff_forall_not_mem.mpr fun p hp => ?_
  obtain ⟨a, b, rfl, h1, h2, h3⟩ := pairsN_ok (apart_sub.subset hp)
  have ea : ((a.toNat : Nat) : Int) = a := by omega
  have eb : ((b.toNat : Nat) : Int) = b := by omega
  have ha : a.toNat < rows.length := by omega
  have hb : b.toNat < rows.length := by omega
  refine reset_meets h hv e ha hb ?_
  rw [← nrm_lt h2] at hp
  exact meet_none h ha hb (by rw [ea, eb]; exact apart_never h hp)
theorem apart_none {wd o : Nat} {rows : List Row} (h : RowsOk wd o rows) (h0 : 0 < rows.length) (e : anyW wd rows = none) : apartF wd rows ≠ [] := fun q => by
  obtain ⟨a, b, ha, hb, em⟩ := any_none h h0 e
  have hn := never_apart h (q := ((a : Int), (b : Int))) ⟨⟨by show (0 : Int) ≤ a; omega, by show (a : Int) < _; omega⟩, by show (0 : Int) ≤ b; omega, by show (b : Int) < _; omega⟩ (meet_never h ha hb em)
  rw [q] at hn
  cases hn
/-- is_reset of words -/
theorem word_lw {wd : Nat} {u : List Nat} : wordOf (.lst ((lw wd u).map tI)) = lw wd u := by
  show ((lw wd u).map tI).map tupI = _
  rw [List.map_map]
  exact (List.map_congr_left fun l _ => tupI_tI l).trans (List.map_id _)
theorem isWd_lw {wd : Nat} {u : List Nat} (h : ∀ x ∈ u, x < (allL wd).length) : isWdD wd (.lst ((lw wd u).map tI)) = true := by
  refine List.all_eq_true.mpr fun d hd => ?_
  obtain ⟨l, hl, rfl⟩ := List.mem_map.mp hd
  exact isLet_of (lw_in h l hl)
theorem isRs_lw {wd : Nat} {rows : List Row} {u : List Nat} (h : ∀ x ∈ u, x < (allL wd).length) : isRs wd rows (.lst ((lw wd u).map tI)) = decide ((lrun wd rows (allS rows.length) u).length = 1) := by
  unfold isRs
  rw [isWd_lw h, word_lw, ledL_lrun]
  rfl
end K82
namespace K82
open PySem PySem.Spec PyProof.Rows L2 DL
variable {P : Program} {w : World} {K : PySem.W.Frag} {mg : Str → Option Value} {base : Heap} {C : Addr}
/-! ### _law_one_right -/
theorem okW_pairs {v : D} {xs : List (List Int)} (h : sqOf v (xs.map tI)) (hl : xs.length ≤ 1000) (hx : ∀ x ∈ xs, x.length ≤ 1000) : okW v := by
  have ho : ∀ x ∈ xs, okV (tI x) := fun x hq => okV_of (.inr rfl) (by rw [List.length_map]; exact hx x hq) fun d hd => by
    obtain ⟨i, _, rfl⟩ := List.mem_map.mp hd
    exact ok_int
  refine ⟨okV_of h (by rw [List.length_map]; exact hl) fun d hd => ?_, fun ds hs d hd => ?_⟩
  · obtain ⟨x, hx, rfl⟩ := List.mem_map.mp hd
    exact ok_tup
  · have : ds = xs.map tI := by rcases h with rfl | rfl <;> rcases hs with e | e <;> cases e <;> rfl
    rw [this] at hd
    obtain ⟨x, hx, rfl⟩ := List.mem_map.mp hd
    exact ho x hx
theorem is_apart_own {wd o : Nat} {rows : List Row} (h : RowsOk wd o rows) (hne : apartF wd rows ≠ []) : isApV wd rows (.lst ((apartF wd rows).map tI)) = true := by
  have e : ((apartF wd rows).map tI).map tupI = apartF wd rows := by
    rw [List.map_map]
    exact (List.map_congr_left fun l _ => tupI_tI l).trans (List.map_id _)
  show isAp wd rows ((apartF wd rows).map tI) = true
  unfold isAp
  rw [e]
  have h1 : (!((apartF wd rows).map tI).isEmpty) = true := by simpa using hne
  have h2 : ((apartF wd rows).map tI).all (isPr rows.length) = true := List.all_eq_true.mpr fun d hd => by
    obtain ⟨p, hp, rfl⟩ := List.mem_map.mp hd
    obtain ⟨a, b, rfl, h1, h2, h3⟩ := pairsN_ok (apart_sub.subset hp)
    exact pair_isPr h1 h2 h3
  have h3 : (apartF wd rows).Nodup := (pairsN_nodup _).sublist apart_sub
  have h4 : ((apartF wd rows).all fun p => (allL wd).all fun l => decide (beh wd rows p l ∈ apartF wd rows)) = true := List.all_eq_true.mpr fun p hp =>
    fix_keep _ (pairsN rows.length) (Nat.lt_succ_self _) p hp
  rw [h1, h2, decide_eq_true h3, h4]
  rfl
theorem kw_reset : KwOk "reset" s_reset ["machine"] p_reset [0] := fun _ _ _ _ _ _ us hl => match us, hl with | [_], _ => rfl
theorem kw_any_reset : KwOk "any_reset" s_any_reset ["machine"] p_any_reset [0] := fun _ _ _ _ _ _ us hl => match us, hl with | [_], _ => rfl
def oneP (wd : Nat) (rows : List Row) (p : Pot) : Pot := match resetW wd rows, anyW wd rows with
  | some u, some v => (valsF wd (lw wd u) (valsF wd (lw wd v) p).2).2
  | _, _ => (valsF wd [] p).2
theorem oneP_ok {wd : Nat} {rows : List Row} {p : Pot} (h : p.ok) : (oneP wd rows p).ok := by
  unfold oneP
  split
  · exact valsF_ok (valsF_ok h)
  · exact valsF_ok h
theorem reset_len {wd o : Nat} {rows : List Row} (h : RowsOk wd o rows) (h0 : 0 < rows.length) (h1 : rows.length ≤ 10) {u : List Nat} (e : resetW wd rows = some u) : u.length ≤ 2 ^ rows.length := by
  have F := few_small h h0 h1
  have hu := List.mem_of_find?_eq_some e
  obtain ⟨j, hj, rfl⟩ := List.getElem_of_mem hu
  have h2 := F.inv.len j _ (List.getElem?_eq_getElem hj)
  have h3 := g_card h (okG_all h0) _ _ _ F.inv
  have : j < (lotsR wd rows).length := hj
  omega
theorem lw_len {wd : Nat} {u : List Nat} : (lw wd u).length = u.length := List.length_map ..
theorem lw_mild2 {wd : Nat} {u : List Nat} (h2 : wd ≤ 2) (h : u.length ≤ 64) (hu : ∀ x ∈ u, x < (allL wd).length) : mild [64, 2] (.lst ((lw wd u).map tI)) = true := by
  refine mild_lst (by rw [List.length_map, lw_len]; exact h) fun d hd => ?_
  obtain ⟨l, hl, rfl⟩ := List.mem_map.mp hd
  obtain ⟨x, hx, rfl⟩ := List.mem_map.mp hl
  obtain ⟨h3, h4⟩ := letters_lets (ltr wd x) (ltr_mem (hu x hx))
  refine mild_tI (by omega) fun i hi => ?_
  rcases h3 i hi with rfl | rfl <;> decide
def R_law_one_right (C : Addr) (c ds : List D) (r : Res) (c' : List D) : Prop := ∃ (wd o : Nat) (rows : List Row) (p : Pot), c = p.ds ∧ ds = [modD wd rows] ∧ RowsOk wd o rows ∧ wd ≤ 2 ∧ 0 < rows.length ∧ rows.length ≤ 6 ∧ p.ok ∧ r = .dat (.bl true) ∧ c' = (oneP wd rows p).ds
abbrev C_law_one_right (P : Program) (w : World) (K : PySem.W.Frag) (mg : Str → Option Value) (base : Heap) (C : Addr) : Prop := CO P w K mg base 10 "_law_one_right" s_law_one_right p_law_one_right (R_law_one_right C)
theorem g_law_one_right (M : Mod K mg) (MC : Mac K mg C) (c1 : C_law_made P w K mg base C) (c2 : C_law_reset P w K mg base) (c3 : C_reset P w K mg base C) (c4 : C_any_reset P w K mg base C) (c5 : C_apart P w K mg base C) (c6 : C_is_apart P w K mg base C) (c7 : C_law_values_right P w K mg base C) (c8 : C_law_is_reset P w K mg base) : C_law_one_right P w K mg base C := by
  refine calO (k := 9) M.law_one_right sc_law_one_right 3 (fun c ds r c' h => ?_) fun c ds r c' h f cdv A outer s H hr => ?_
  · obtain ⟨wd, o, rows, p, rfl, rfl, _⟩ := h
    rfl
  · obtain ⟨wd, o, rows, p, rfl, rfl, hR, h2, h0, h6, hp, rfl, rfl⟩ := h
    obtain ⟨gR, gdR, FR, mR', bR⟩ := MC.repr
    have F := few_small hR h0 (by omega)
    have hres : ∀ {r : Res}, wordR wd (resetW wd rows) = r → R_reset C [macD C wd o rows] r := fun e => ⟨wd, o, rows, rfl, hR, h0, F.few, e.symm⟩
    have hany : ∀ {r : Res}, wordR wd (anyW wd rows) = r → R_any_reset C [macD C wd o rows] r := fun e => ⟨wd, o, rows, rfl, hR, h0, e.symm⟩
    refine Ex.runsO (ex_cons (ds_par (i := 2) (j := 3) (u := .dat (macD C wd o rows)) (v := .dat (wordD wd (resetW wd rows))) rfl sc_law_one_right.nd (da_cons (de_cP c1 hr (da_cons (de_var 1 rfl) da_nil) ⟨wd, o, rows, rfl, hR, rfl⟩ (.dat _)) (by exact da_cons (de_cP c2 hr (da_cons (de_var 1 rfl) da_nil) ⟨wd, o, rows, rfl, hR, h0, by omega, rfl⟩ (.dat _)) da_nil))) ?_)
    refine ex_cons (ds_set (i := 4) (u := .dat (.str (repS wd o rows))) (de_reprC (de_var 2 rfl) mR'.at_ mR'.fn (g_Crepr M MC FR) bR (hr.mono (by decide)) ⟨wd, o, rows, rfl, hR, rfl⟩ M.blt.repr) sc_law_one_right.nd) ?_
    cases e : resetW wd rows with
    | none =>
      have ea : anyW wd rows = none := (any_iff hR h0 F).mpr e
      have hne := apart_none hR h0 ea
      have eo : oneP wd rows p = (valsF wd [] p).2 := by unfold oneP; rw [e]
      rw [eo]
      have r1 := hres (r := .dat .non) (by rw [e]; rfl)
      have r2 := hany (r := .dat .non) (by rw [ea]; rfl)
      have hmild : mild [2] (.lst [.non, .non]) = true := by decide
      have hap : R_apart C [macD C wd o rows] (.new ((apartF wd rows).map tI)) := ⟨wd, o, rows, rfl, hR, by unfold pairsR; rw [if_neg hne]⟩
      have hxs : ∀ x ∈ apartF wd rows, isP rows.length x := fun x hx => pairsN_ok (apart_sub.subset hx)
      have hxl : (apartF wd rows).length ≤ 256 := Nat.le_trans apart_sub.length_le (pairsN_len (by omega))
      have hsq : R_is_apart C [macD C wd o rows, .lst ((apartF wd rows).map tI)] (.dat (.bl true)) := ⟨wd, o, rows, _, rfl, hR, okW_pairs (.inl rfl) (by omega) (fun x hx => by
        obtain ⟨a, b, rfl, _⟩ := hxs x hx
        simp), by rw [is_apart_own hR hne]⟩
      refine ex_cons (ds_set (i := 5) (u := .dat (.lst [.non, .non])) (de_lst (da_cons (de_cP c3 hr (da_cons (de_var 2 rfl) da_nil) r1 (.dat _)) (da_cons (de_cPK (ix := [0]) (ks := ["machine"]) (ds := [macD C wd o rows]) c3 hr (dk_cons (de_var 2 rfl) dk_nil) r1 (.dat _) kw_reset) da_nil)) (.dl _)) sc_law_one_right.nd) ?_
      refine ex_ifN (dt_to (dt_neS (x := reprD (.lst [.non, .non])) (y := reprD (.lst [.non, .non])) (de_repr hr.gd hr.u64 M.blt.repr (de_var 5 rfl) (.dat _) hmild) (de_repr hr.gd hr.u64 M.blt.repr (de_lst (da_cons (de_var 3 rfl) (da_cons (de_var 3 rfl) da_nil)) (.dl _)) (.dat _) hmild)) (by simp)) ?_
      refine ex_cons (ds_par (i := 6) (j := 7) (u := .dat .non) (v := .dat .non) rfl sc_law_one_right.nd (da_cons (de_cP c4 hr (da_cons (de_var 2 rfl) da_nil) r2 (.dat _)) (da_cons (de_cPK (ix := [0]) (ks := ["machine"]) (ds := [macD C wd o rows]) c4 hr (dk_cons (de_var 2 rfl) dk_nil) r2 (.dat _) kw_any_reset) da_nil))) ?_
      refine ex_ifN (dt_to (dt_orB (x := false) (y := false) (dt_to (dt_neD (d := .non) (d' := .non) hr.u64 (de_var 6 rfl) (de_var 7 rfl) (.dat _) (.dat _) (by decide) (by decide)) rfl) (dt_cmp op_ne (de_isN (de_var 6 rfl)) (de_isN (de_var 3 rfl)) opd_neB rfl)) rfl) ?_
      refine ex_ifT (dt_to (dt_isNon (de_var 3 rfl)) rfl) ?_
      refine ex_cons (ds_set (i := 8) (de_cP c5 hr (da_cons (de_var 2 rfl) da_nil) hap (.new (.dl _))) sc_law_one_right.nd) ?_
      refine ex_ifN (S1 := ⟨[some (.own 0), some (.dat (modD wd rows)), some (.dat (macD C wd o rows)), some (.dat .non), some (.dat (.str (repS wd o rows))), some (.dat (.lst [.non, .non])), some (.dat .non), some (.dat .non), some (.dat (.lst ((apartF wd rows).map tI)))], [some (.lst (valsF wd [] p).2.ds), none, none, none]⟩) (DW.dt (dw_orF (dt_to (dt_isNon (de_var 8 rfl)) rfl) (dw_orF (dt_notF (dt_val (de_cP c6 hr (da_cons (de_var 2 rfl) (da_cons (de_var 8 rfl) da_nil)) hsq (.dat _)))) (dw_or1 (dt_notF (dt_val (de_cO c7 hr (da_cons (de_var 0 rfl) (da_cons (de_var 1 rfl) (da_cons (de_var 2 rfl) (da_cons (de_lst da_nil (.dl _)) da_nil)))) rfl ⟨wd, o, rows, [], p, rfl, rfl, hR, h2, (fun l hl => nomatch hl), by simp, hp, rfl, rfl⟩ (.dat _)))))))) ?_
      exact ex_ret (de_to (de_cmp op_eq (de_reprC (de_var 2 rfl) mR'.at_ mR'.fn (g_Crepr M MC FR) bR (hr.mono (by decide)) ⟨wd, o, rows, rfl, hR, rfl⟩ M.blt.repr) (de_var 4 rfl) opd_eqS rfl) (by simp)) ⟨.dat, rfl⟩
    | some u =>
      have hl := reset_least F e
      have hul : u.length ≤ 64 := by
        have := reset_len hR h0 (by omega) e
        have : 2 ^ rows.length ≤ 2 ^ 6 := Nat.pow_le_pow_right (by decide) h6
        omega
      have hu := hl.dig
      cases ea : anyW wd rows with
      | none =>
        rw [(any_iff hR h0 F).mp ea] at e
        cases e
      | some v =>
        obtain ⟨hv1, hv, hvl⟩ := any_some hR h0 ea
        have hvl : v.length ≤ 216 := by
          have h1 : rows.length * rows.length ≤ 6 * 6 := Nat.mul_le_mul h6 h6
          have h2 : rows.length * rows.length * rows.length ≤ 36 * 6 := Nat.mul_le_mul h1 h6
          omega
        have hap0 := apart_reset hR h0 hv hv1
        have eo : oneP wd rows p = (valsF wd (lw wd u) (valsF wd (lw wd v) p).2).2 := by unfold oneP; rw [e, ea]
        rw [eo]
        have r1 := hres (r := .new ((lw wd u).map tI)) (by rw [e]; rfl)
        have r2 := hany (r := .new ((lw wd v).map tI)) (by rw [ea]; rfl)
        have hap : R_apart C [macD C wd o rows] (.dat .non) := ⟨wd, o, rows, rfl, hR, by unfold pairsR; rw [if_pos hap0]⟩
        have hsq : R_is_apart C [macD C wd o rows, .lst []] (.dat (.bl false)) := ⟨wd, o, rows, .lst [], rfl, hR, okW_pairs (xs := []) (.inl rfl) (by simp) (fun x hx => nomatch hx), rfl⟩
        have hm1 := lw_mild2 h2 hul hu
        have hmild : mild [2, 64, 2] (.lst [.lst ((lw wd u).map tI), .lst ((lw wd u).map tI)]) = true := mild_lst (by simp) fun d hd => by
          simp at hd
          rw [hd]
          exact hm1
        have heq : ∀ L : List (List Int), eqD (.lst (L.map tI)) (.lst (L.map tI)) = true := fun L => (eqD_iff _ _ (exact_tIs _) (exact_tIs _)).mpr rfl
        have hrs : isRs wd rows (.lst ((lw wd v).map tI)) = true := by rw [isRs_lw hv, decide_eq_true hv1]
        have hvo : okWL wd (.lst ((lw wd v).map tI)) := okWL_lst (by rw [List.length_map, lw_len]; omega) fun d hd => by
          obtain ⟨l, hl, rfl⟩ := List.mem_map.mp hd
          exact okE1 h2 (lw_in hv l hl) (by simp [elems1])
        have hp1 : (valsF wd (lw wd v) p).2.ok := valsF_ok hp
        generalize hq1 : (valsF wd (lw wd v) p).2 = q1 at hp1
        have hshort : u.length ≤ v.length := hl.short hv (by simpa using hv1)
        let G0 : List (Option U) := [some (.own 0), some (.dat (modD wd rows)), some (.dat (macD C wd o rows)), some (.dat (.lst ((lw wd u).map tI))), some (.dat (.str (repS wd o rows))), some (.own 2), some (.own 3), some (.dat (.lst ((lw wd v).map tI))), none]
        refine ex_cons (ds_set (i := 5) (de_lsu (da_cons (de_cP c3 hr (da_cons (de_var 2 rfl) da_nil) r1 (.new (.ow 1 _ (by decide) rfl))) (da_cons (de_cPK (ix := [0]) (ks := ["machine"]) (ds := [macD C wd o rows]) c3 hr (dk_cons (de_var 2 rfl) dk_nil) r1 (.new (.dl _)) kw_reset) da_nil)) 2 (by decide) rfl) sc_law_one_right.nd) ?_
        refine ex_ifN (dt_to (dt_neS (x := reprD (.lst [.lst ((lw wd u).map tI), .lst ((lw wd u).map tI)])) (y := reprD (.lst [.lst ((lw wd u).map tI), .lst ((lw wd u).map tI)])) (de_repr hr.gd hr.u64 M.blt.repr (de_var 5 rfl) (.lsu rfl (.cons (.lst rfl) (.cons (.dat _) .nil))) hmild) (de_repr hr.gd hr.u64 M.blt.repr (de_lst (da_cons (de_var 3 rfl) (da_cons (de_var 3 rfl) da_nil)) (.dl _)) (.dat _) hmild)) (by simp)) ?_
        refine ex_cons (ds_par (i := 6) (j := 7) (u := .own 3) (v := .dat (.lst ((lw wd v).map tI))) rfl sc_law_one_right.nd (da_cons (de_cP c4 hr (da_cons (de_var 2 rfl) da_nil) r2 (.new (.ow 3 _ (by decide) rfl))) (by exact da_cons (de_cPK (ix := [0]) (ks := ["machine"]) (ds := [macD C wd o rows]) c4 hr (dk_cons (de_var 2 rfl) dk_nil) r2 (.new (.dl _)) kw_any_reset) da_nil))) ?_
        refine ex_ifN (dt_to (dt_orB (x := false) (y := false) (dt_to (dt_neD (d := .lst ((lw wd v).map tI)) (d' := .lst ((lw wd v).map tI)) hr.u64 (de_var 6 rfl) (de_var 7 rfl) (.lst rfl) (.dat _) (good_ps _) (good_ps _)) (by rw [heq]; rfl)) (dt_cmp op_ne (de_isN (de_var 6 rfl)) (de_isN (de_var 3 rfl)) opd_neB rfl)) rfl) ?_
        refine ex_ifN (dt_to (dt_isNon (de_var 3 rfl)) rfl) ?_
        refine ex_ifN (dt_to (dt_orL3 (x := false) (y := false) (v := false) (dt_to (dt_notNon (de_cP c5 hr (da_cons (de_var 2 rfl) da_nil) hap (.dat _))) rfl) (fun _ => dt_val (de_cP c6 hr (da_cons (de_var 2 rfl) (da_cons (de_lst da_nil (.dl _)) da_nil)) hsq (.dat _))) (fun _ _ => dt_notF (dt_val (de_cL (ds := [modD wd rows, .lst ((lw wd v).map tI)]) c8 hr (da_cons (de_var 1 rfl) (da_cons (de_var 6 rfl) da_nil)) (.cons (.dat _) (.cons (.lst rfl) .nil)) ⟨wd, o, rows, _, rfl, hR, h2, hvo, by rw [hrs]⟩ rfl)))) rfl) ?_
        refine ex_ifN (S1 := ⟨G0, [some (.lst (valsF wd (lw wd u) q1).2.ds), some (.lst ((lw wd u).map tI)), some (.lsu [.own 1, .dat (.lst ((lw wd u).map tI))]), some (.lst ((lw wd v).map tI))]⟩) (DW.dt (dw_orF (S1 := ⟨G0, [some (.lst q1.ds), some (.lst ((lw wd u).map tI)), some (.lsu [.own 1, .dat (.lst ((lw wd u).map tI))]), some (.lst ((lw wd v).map tI))]⟩) (dt_notF (dt_val (de_cOL (c' := q1.ds) (ds := [modD wd rows, macD C wd o rows, .lst ((lw wd v).map tI)]) c7 hr (da_cons (de_var 0 rfl) (da_cons (de_var 1 rfl) (da_cons (de_var 2 rfl) (da_cons (de_var 6 rfl) da_nil)))) rfl (.dat _ (.dat _ (.own (by decide) rfl .nil))) ⟨wd, o, rows, lw wd v, p, rfl, rfl, hR, h2, lw_in hv, by rw [lw_len]; omega, hp, rfl, by rw [hq1]⟩ rfl rfl rfl))) (dw_or1 (dt_notF (dt_val (de_cO c7 hr (da_cons (de_var 0 rfl) (da_cons (de_var 1 rfl) (da_cons (de_var 2 rfl) (da_cons (de_var 3 rfl) da_nil)))) rfl ⟨wd, o, rows, lw wd u, q1, rfl, rfl, hR, h2, lw_in hu, by rw [lw_len]; omega, hp1, rfl, rfl⟩ (.dat _))))))) ?_
        refine ex_ifN (dt_to (dt_ltI (de_len M.blt.len (de_var 6 rfl) (.lst (.own rfl))) (de_len M.blt.len (de_var 3 rfl) (.lst (.dat _)))) (by rw [List.length_map, List.length_map, lw_len, lw_len]; simp; omega)) ?_
        refine ex_cons (ds_expr (de_append (n := 1) (d := .non) (de_ixU (n := 2) (us := [.own 1, .dat (.lst ((lw wd u).map tI))]) (de_var 5 rfl) de_int rfl (by decide) rfl) de_non rfl rfl (by rw [List.length_map, lw_len]; omega))) ?_
        refine ex_cons (ds_expr (de_append (n := 3) (d := .non) (de_var 6 rfl) de_non rfl rfl (by rw [List.length_map, lw_len]; omega))) ?_
        exact ex_ret (de_andT (de_to (de_eqD (d := .lst ((lw wd u).map tI)) (d' := .lst ((lw wd u).map tI)) hr.u64 (de_cP c3 hr (da_cons (de_var 2 rfl) da_nil) r1 (.new (.dl _))) (de_var 3 rfl) (.dat _) (.dat _) (good_ps _) (good_ps _)) (by rw [heq])) (de_andT (de_to (de_eqD (d := .lst ((lw wd v).map tI)) (d' := .lst ((lw wd v).map tI)) hr.u64 (de_cP c4 hr (da_cons (de_var 2 rfl) da_nil) r2 (.new (.dl _))) (de_var 7 rfl) (.dat _) (.dat _) (good_ps _) (good_ps _)) (by rw [heq])) (de_one (de_to (de_cmp op_eq (de_reprC (de_var 2 rfl) mR'.at_ mR'.fn (g_Crepr M MC FR) bR (hr.mono (by decide)) ⟨wd, o, rows, rfl, hR, rfl⟩ M.blt.repr) (de_var 4 rfl) opd_eqS rfl) (by simp))))) ⟨.dat, rfl⟩
end K82
namespace K82
open PySem PySem.Spec PyProof.Rows L2 DL
/-! ### machines that turn round -/
def roundR (n : Nat) : List Row := (List.range n).map fun s => [((s + 1) % n, [0]), (if s = n - 1 then 0 else s, [1])]
theorem roundR_len (n : Nat) : (roundR n).length = n := by simp [roundR]
theorem okRound {n : Nat} (h2 : 2 ≤ n) (h16 : n ≤ 16) : RowsOk 1 1 (roundR n) where
  w4 := by decide
  o4 := by decide
  pos := by rw [roundR_len]; omega
  most := by rw [roundR_len]; exact h16
  row := fun r hr => by
    rw [roundR_len]
    obtain ⟨s, hs, rfl⟩ := List.mem_map.mp hr
    have hs := List.mem_range.mp hs
    refine ⟨rfl, fun g hg => ?_⟩
    simp only [List.mem_cons, List.not_mem_nil, or_false] at hg
    rcases hg with rfl | rfl
    · exact ⟨Nat.mod_lt _ (by omega), fun i hi => .inl (List.mem_singleton.mp hi), rfl⟩
    · refine ⟨?_, fun i hi => .inr (List.mem_singleton.mp hi), rfl⟩
      show (if s = n - 1 then 0 else s) < n
      split <;> omega
/-! ### lots by masks -/
/-- the mask behind a table of goals -/
def stepM : List Nat → Nat → Nat
  | [], _ => 0
  | t :: ts, m => if m % 2 = 1 then 2 ^ t ||| stepM ts (m / 2) else stepM ts (m / 2)
theorem testBit_step : ∀ (ts : List Nat) (m x : Nat), (stepM ts m).testBit x = true ↔ ∃ s, ts[s]? = some x ∧ m.testBit s = true
  | [], m, x => by simp [stepM]
  | t :: ts, m, x => by
    have ih := testBit_step ts (m / 2) x
    have key : (stepM (t :: ts) m).testBit x = true ↔ (m % 2 = 1 ∧ t = x) ∨ (stepM ts (m / 2)).testBit x = true := by
      show (if m % 2 = 1 then 2 ^ t ||| stepM ts (m / 2) else stepM ts (m / 2)).testBit x = true ↔ _
      by_cases h : m % 2 = 1
      · rw [if_pos h, Nat.testBit_or, Nat.testBit_two_pow, Bool.or_eq_true, decide_eq_true_eq]
        simp [h]
      · rw [if_neg h]
        simp [h]
    rw [key, ih]
    constructor
    · rintro (⟨h1, h2⟩ | ⟨s, h1, h2⟩)
      · exact ⟨0, by simp [h2], by rw [Nat.testBit_zero]; exact decide_eq_true h1⟩
      · exact ⟨s + 1, by simpa using h1, by rw [Nat.testBit_succ]; exact h2⟩
    · rintro ⟨s, h1, h2⟩
      cases s with
      | zero =>
        left
        rw [Nat.testBit_zero] at h2
        exact ⟨of_decide_eq_true h2, by simpa using h1⟩
      | succ s =>
        right
        rw [Nat.testBit_succ] at h2
        exact ⟨s, by simpa using h1, h2⟩
def tabM (wd : Nat) (rows : List Row) (j : Nat) : List Nat := (List.range rows.length).map fun (s : Nat) => (go wd rows (s : Int) (ltr wd j)).toNat
theorem mask_step {wd o : Nat} {rows : List Row} (h : RowsOk wd o rows) {lot : List Int} {j : Nat} (hj : j < (allL wd).length) (hm : inM rows.length lot) : maskOf (lstep wd rows lot j) = stepM (tabM wd rows j) (maskOf lot) := by
  refine Nat.eq_of_testBit_eq fun x => ?_
  have hl := ltr_mem hj
  have hn := nextL_ok h hl hm
  rw [Bool.eq_iff_iff, testBit_mask _ _ (fun s hs => (hn s hs).1), testBit_step]
  show (x : Int) ∈ sset (lot.map fun s => go wd rows s (ltr wd j)) ↔ _
  rw [mem_sset, List.mem_map]
  constructor
  · rintro ⟨s, h1, h2⟩
    have h3 := hm s h1
    have es : ((s.toNat : Nat) : Int) = s := by omega
    refine ⟨s.toNat, ?_, (testBit_mask lot _ fun s hs => (hm s hs).1).mpr (by rw [es]; exact h1)⟩
    unfold tabM
    rw [List.getElem?_map, List.getElem?_range (by omega)]
    show some (go wd rows ((s.toNat : Nat) : Int) (ltr wd j)).toNat = some x
    rw [es, h2]
    rfl
  · rintro ⟨s, h1, h2⟩
    have h3 := (testBit_mask lot s fun s hs => (hm s hs).1).mp h2
    refine ⟨(s : Int), h3, ?_⟩
    have h4 := hm _ h3
    unfold tabM at h1
    rw [List.getElem?_map, List.getElem?_range (by omega)] at h1
    have h5 : (go wd rows (s : Int) (ltr wd j)).toNat = x := Option.some.inj h1
    have h6 := go_ok h (s := (s : Int)) h4.1 h4.2 hl
    omega
def runM (tab : Nat → List Nat) (m : Nat) (u : List Nat) : Nat := u.foldl (fun m j => stepM (tab j) m) m
theorem mask_run {wd o : Nat} {rows : List Row} (h : RowsOk wd o rows) : ∀ (u : List Nat) (lot : List Int), okG rows.length lot → (∀ x ∈ u, x < (allL wd).length) → maskOf (lrun wd rows lot u) = runM (tabM wd rows) (maskOf lot) u
  | [], _, _, _ => rfl
  | j :: u, lot, k, hu => by
    have hj := hu j List.mem_cons_self
    have e : lrun wd rows lot (j :: u) = lrun wd rows (lstep wd rows lot j) u := rfl
    rw [e, mask_run h u _ (okG_next h (ltr_mem hj) k) fun x hx => hu x (List.mem_cons_of_mem _ hx), mask_step h hj k.inm]
    rfl
theorem mask_one {n : Nat} {lot : List Int} (k : okG n lot) (h : lot.length = 1) : ∃ s, s < n ∧ maskOf lot = 2 ^ s := by
  obtain ⟨x, rfl⟩ := List.length_eq_one_iff.mp h
  have := k.inm x (by simp)
  exact ⟨x.toNat, by omega, by simp [maskOf]⟩
theorem one_mask {n : Nat} {lot : List Int} (k : okG n lot) {s : Nat} (hs : s < n) (h : maskOf lot = 2 ^ s) : lot.length = 1 := by
  have k2 : okG n [(s : Int)] := ⟨by simp, by simp, fun x hx => by
    have := List.mem_singleton.mp hx
    omega⟩
  have e : maskOf [(s : Int)] = 2 ^ s := by simp [maskOf]
  rw [mask_inj k k2 (h.trans e.symm)]
  rfl
/-! ### how long a least word is -/
/-- the set of masks, as a number, behind one more letter -/
def layM (t0 t1 : List Nat) (B : Nat) : Nat → Nat
  | 0 => 0
  | m + 1 => if B.testBit m then 2 ^ stepM t0 m ||| (2 ^ stepM t1 m ||| layM t0 t1 B m) else layM t0 t1 B m
theorem layM_in {t0 t1 : List Nat} {B m : Nat} : ∀ {N : Nat}, m < N → B.testBit m = true → (layM t0 t1 B N).testBit (stepM t0 m) = true ∧ (layM t0 t1 B N).testBit (stepM t1 m) = true
  | 0, h, _ => by omega
  | N + 1, h, hb => by
    by_cases e : m = N
    · subst e
      show (if B.testBit m then 2 ^ stepM t0 m ||| (2 ^ stepM t1 m ||| layM t0 t1 B m) else layM t0 t1 B m).testBit _ = true ∧ (if B.testBit m then 2 ^ stepM t0 m ||| (2 ^ stepM t1 m ||| layM t0 t1 B m) else layM t0 t1 B m).testBit _ = true
      rw [if_pos hb]
      simp [Nat.testBit_or, Nat.testBit_two_pow]
    · obtain ⟨h1, h2⟩ := layM_in (t0 := t0) (t1 := t1) (N := N) (by omega) hb
      show (if B.testBit N then 2 ^ stepM t0 N ||| (2 ^ stepM t1 N ||| layM t0 t1 B N) else layM t0 t1 B N).testBit _ = true ∧ (if B.testBit N then 2 ^ stepM t0 N ||| (2 ^ stepM t1 N ||| layM t0 t1 B N) else layM t0 t1 B N).testBit _ = true
      split
      · simp [Nat.testBit_or, h1, h2]
      · exact ⟨h1, h2⟩
def noOne (n : Nat) (t0 t1 : List Nat) (N : Nat) : Nat → Nat → Bool
  | 0, _ => true
  | f + 1, B => ((List.range n).all fun s => !B.testBit (2 ^ s)) && noOne n t0 t1 N f (layM t0 t1 B N)
theorem noOne_ok {n N : Nat} {tab : Nat → List Nat} (hN : ∀ j m, j < 2 → m < N → stepM (tab j) m < N) : ∀ (f : Nat) (B m : Nat) (u : List Nat), noOne n (tab 0) (tab 1) N f B = true → B.testBit m = true → m < N → (∀ x ∈ u, x < 2) → u.length < f → ∀ s, s < n → runM tab m u ≠ 2 ^ s
  | 0, _, _, _, _, _, _, _, h, _, _ => by omega
  | f + 1, B, m, u, hf, hb, hm, hu, hl, s, hs => by
    have hf : (((List.range n).all fun s => !B.testBit (2 ^ s)) && noOne n (tab 0) (tab 1) N f (layM (tab 0) (tab 1) B N)) = true := hf
    obtain ⟨h1, h2⟩ := Bool.and_eq_true_iff.mp hf
    cases u with
    | nil =>
      intro e
      have e : m = 2 ^ s := e
      have := List.all_eq_true.mp h1 s (List.mem_range.mpr hs)
      rw [← e, hb] at this
      cases this
    | cons j u =>
      have hj := hu j List.mem_cons_self
      obtain ⟨k1, k2⟩ := layM_in (t0 := tab 0) (t1 := tab 1) hm hb
      have k : (layM (tab 0) (tab 1) B N).testBit (stepM (tab j) m) = true := by
        have : j = 0 ∨ j = 1 := by omega
        rcases this with rfl | rfl
        · exact k1
        · exact k2
      exact noOne_ok hN f _ (stepM (tab j) m) u h2 k (hN j m hj hm) (fun x hx => hu x (List.mem_cons_of_mem _ hx)) (by simp at hl; omega) s hs
end K82
namespace K82
open PySem PySem.Spec PyProof.Rows L2 DL
theorem step_lt {n : Nat} {ts : List Nat} (h : ∀ x ∈ ts, x < n) (m : Nat) : stepM ts m < 2 ^ n := by
  refine Nat.lt_pow_two_of_testBit _ fun i hi => ?_
  cases e : (stepM ts m).testBit i with
  | false => rfl
  | true =>
    obtain ⟨s, h1, _⟩ := (testBit_step ts m i).mp e
    have := h i (List.mem_of_getElem? h1)
    omega
/-! ### the least words of the machines that turn round -/
def t0L (n : Nat) : List Nat := (List.range n).map fun s => (s + 1) % n
def t1L (n : Nat) : List Nat := (List.range n).map fun s => if s = n - 1 then 0 else s
def wordR0 (n : Nat) : List Nat := 1 :: (List.replicate (n - 2) (List.replicate (n - 1) 0 ++ [1])).flatten
def runL (t0 t1 : List Nat) : Nat → List Nat → Nat
  | m, [] => m
  | m, j :: u => runL t0 t1 (stepM (if j = 0 then t0 else t1) m) u
theorem runL_run {tab : Nat → List Nat} : ∀ (u : List Nat) (m : Nat), (∀ x ∈ u, x < 2) → runL (tab 0) (tab 1) m u = runM tab m u
  | [], _, _ => rfl
  | j :: u, m, h => by
    have hj := h j List.mem_cons_self
    have e : (if j = 0 then tab 0 else tab 1) = tab j := by
      have : j = 0 ∨ j = 1 := by omega
      rcases this with rfl | rfl <;> rfl
    show runL (tab 0) (tab 1) (stepM (if j = 0 then tab 0 else tab 1) m) u = runM tab (stepM (tab j) m) u
    rw [e]
    exact runL_run u _ fun x hx => h x (List.mem_cons_of_mem _ hx)
def chkR (n : Nat) : Bool := decide (tabM 1 (roundR n) 0 = t0L n) && (decide (tabM 1 (roundR n) 1 = t1L n) && (decide (maskOf (allS n) = 2 ^ n - 1) && (noOne n (t0L n) (t1L n) (2 ^ n) ((n - 1) ^ 2) (2 ^ (2 ^ n - 1)) &&
  (decide (runL (t0L n) (t1L n) (2 ^ n - 1) (wordR0 n) = 1) && (decide ((wordR0 n).length = (n - 1) ^ 2) && (wordR0 n).all fun x => decide (x < 2))))))
theorem chkR_all : ((List.range 6).all fun i => chkR (i + 2)) = true := by decide +kernel
theorem allL1 : (allL 1).length = 2 := by decide
theorem round_short {n : Nat} (h2 : 2 ≤ n) (h7 : n ≤ 7) : ∃ u, resetW 1 (roundR n) = some u ∧ u.length = (n - 1) ^ 2 ∧ (∀ x ∈ u, x < (allL 1).length) ∧ (lrun 1 (roundR n) (allS n) u).length = 1 ∧
    ∀ v : List Nat, (∀ x ∈ v, x < (allL 1).length) → v.length < (n - 1) ^ 2 → (lrun 1 (roundR n) (allS n) v).length ≠ 1 := by
  have hc : chkR n = true := by
    have := List.all_eq_true.mp chkR_all (n - 2) (List.mem_range.mpr (by omega))
    have e : n - 2 + 2 = n := by omega
    rw [e] at this
    exact this
  unfold chkR at hc
  simp only [Bool.and_eq_true, decide_eq_true_eq] at hc
  obtain ⟨c1, c2, c3, c4, c5, c6, c7⟩ := hc
  have hR := okRound h2 (by omega : n ≤ 16)
  have hlen := roundR_len n
  have h0 : 0 < (roundR n).length := by omega
  have k0 := okG_all h0
  have F := few_small hR h0 (by omega)
  rw [hlen] at k0
  have d2 : ∀ {v : List Nat}, (∀ x ∈ v, x < (allL 1).length) → ∀ x ∈ v, x < 2 := fun h x hx => by
    have := h x hx
    rw [allL1] at this
    exact this
  have hno : ∀ v : List Nat, (∀ x ∈ v, x < (allL 1).length) → v.length < (n - 1) ^ 2 → (lrun 1 (roundR n) (allS n) v).length ≠ 1 := fun v hv hl e => by
    have k : okG n (lrun 1 (roundR n) (allS n) v) := by
      have := okG_run hR v (s0 := allS n) (by rw [hlen]; exact k0) hv
      rw [hlen] at this
      exact this
    obtain ⟨s, hs, e2⟩ := mask_one k e
    have e3 := mask_run hR v (allS n) (by rw [hlen]; exact k0) hv
    rw [c3] at e3
    refine noOne_ok (n := n) (N := 2 ^ n) (tab := tabM 1 (roundR n)) (fun j m hj hm => step_lt (fun x hx => ?_) m) ((n - 1) ^ 2) (2 ^ (2 ^ n - 1)) (2 ^ n - 1) v (by rw [c1, c2]; exact c4) (by simp [Nat.testBit_two_pow]) (by have : 0 < 2 ^ n := Nat.two_pow_pos n; omega) (d2 hv) hl s hs (e3.symm.trans e2)
    unfold tabM at hx
    obtain ⟨s, hs, rfl⟩ := List.mem_map.mp hx
    have hs := List.mem_range.mp hs
    have := go_ok hR (s := (s : Int)) (by omega) (by omega) (ltr_mem (wd := 1) (j := j) (by rw [allL1]; exact hj))
    omega
  have hw1 : ∀ x ∈ wordR0 n, x < (allL 1).length := fun x hx => by
    rw [allL1]
    exact of_decide_eq_true (List.all_eq_true.mp c7 x hx)
  have hw2 : (lrun 1 (roundR n) (allS n) (wordR0 n)).length = 1 := by
    have k : okG n (lrun 1 (roundR n) (allS n) (wordR0 n)) := by
      have := okG_run hR (wordR0 n) (s0 := allS n) (by rw [hlen]; exact k0) hw1
      rw [hlen] at this
      exact this
    refine one_mask k (s := 0) (by omega) ?_
    rw [mask_run hR (wordR0 n) (allS n) (by rw [hlen]; exact k0) hw1, c3, ← runL_run _ _ (d2 hw1), c1, c2, c5]
  cases e : resetW 1 (roundR n) with
  | none =>
    have := reset_never F e (wordR0 n) hw1
    unfold one1 at this
    rw [hlen, hw2] at this
    cases this
  | some u =>
    have l := reset_least F e
    have hu1 : (lrun 1 (roundR n) (allS n) u).length = 1 := by
      have := l.holds
      unfold one1 at this
      rw [hlen] at this
      simpa using this
    have s1 := l.short hw1 (by
      unfold one1
      rw [hlen]
      show ((lrun 1 (roundR n) (allS n) (wordR0 n)).length == 1) = true
      rw [hw2]
      rfl)
    refine ⟨u, rfl, ?_, l.dig, hu1, hno⟩
    rw [c6] at s1
    rcases Nat.lt_or_ge u.length ((n - 1) ^ 2) with q | q
    · exact absurd hu1 (hno u l.dig q)
    · omega
/-! ### too many lots -/
def walkM (t0 t1 : List Nat) : Nat → List Nat → Nat → Nat
  | 0, _, B => B
  | _ + 1, [], B => B
  | f + 1, m :: q, B => if B.testBit (stepM t0 m) then (if B.testBit (stepM t1 m) then walkM t0 t1 f q B else walkM t0 t1 f (stepM t1 m :: q) (B ||| 2 ^ stepM t1 m))
    else (if B.testBit (stepM t1 m) then walkM t0 t1 f (stepM t0 m :: q) (B ||| 2 ^ stepM t0 m) else walkM t0 t1 f (stepM t0 m :: stepM t1 m :: q) (B ||| 2 ^ stepM t0 m ||| 2 ^ stepM t1 m))
theorem walkM_ok {t0 t1 : List Nat} {Q : Nat → Prop} (hQ : ∀ m, Q m → Q (stepM t0 m) ∧ Q (stepM t1 m)) : ∀ (f : Nat) (q : List Nat) (B : Nat), (∀ m ∈ q, Q m) → (∀ x, B.testBit x = true → Q x) → ∀ x, (walkM t0 t1 f q B).testBit x = true → Q x
  | 0, _, B, _, hB, x, h => hB x h
  | _ + 1, [], B, _, hB, x, h => hB x h
  | f + 1, m :: q, B, hq, hB, x, h => by
    obtain ⟨a, b⟩ := hQ m (hq m List.mem_cons_self)
    have hq' : ∀ m ∈ q, Q m := fun y hy => hq y (List.mem_cons_of_mem _ hy)
    have ext : ∀ {B : Nat} {z : Nat}, (∀ x, B.testBit x = true → Q x) → Q z → ∀ x, (B ||| 2 ^ z).testBit x = true → Q x := fun {B z} h1 h2 x hx => by
      rw [Nat.testBit_or, Nat.testBit_two_pow, Bool.or_eq_true, decide_eq_true_eq] at hx
      rcases hx with hx | hx
      · exact h1 x hx
      · rw [← hx]; exact h2
    have con : ∀ {z : Nat} {q : List Nat}, Q z → (∀ m ∈ q, Q m) → ∀ m ∈ z :: q, Q m := fun {z q} h1 h2 y hy => by
      rcases List.mem_cons.mp hy with rfl | hy
      · exact h1
      · exact h2 y hy
    have h : (if B.testBit (stepM t0 m) then (if B.testBit (stepM t1 m) then walkM t0 t1 f q B else walkM t0 t1 f (stepM t1 m :: q) (B ||| 2 ^ stepM t1 m))
      else (if B.testBit (stepM t1 m) then walkM t0 t1 f (stepM t0 m :: q) (B ||| 2 ^ stepM t0 m) else walkM t0 t1 f (stepM t0 m :: stepM t1 m :: q) (B ||| 2 ^ stepM t0 m ||| 2 ^ stepM t1 m))).testBit x = true := h
    split at h
    · split at h
      · exact walkM_ok hQ f q B hq' hB x h
      · exact walkM_ok hQ f _ _ (con b hq') (ext hB b) x h
    · split at h
      · exact walkM_ok hQ f _ _ (con a hq') (ext hB a) x h
      · exact walkM_ok hQ f _ _ (con a (con b hq')) (ext (ext hB a) b) x h
def T0 : List Nat := [1, 2, 3, 4, 5, 6, 7, 8, 9, 10, 0]
def T1 : List Nat := [0, 1, 2, 3, 4, 5, 6, 7, 8, 9, 0]
theorem walk11 : walkM T0 T1 3000 [2047] (2 ^ 2047) = 2 ^ 2048 - 2 := by decide +kernel
theorem bits11 {x : Nat} (h : x < 2047) : (2 ^ 2048 - 2).testBit (x + 1) = true := by
  have e : (2 ^ 2048 - 2) / 2 = 2 ^ 2047 - 1 := by decide +kernel
  rw [Nat.testBit_succ, e, Nat.testBit_two_pow_sub_one]
  exact decide_eq_true h
/-- every lot but none is come to -/
theorem all_lots {wd o : Nat} {rows : List Row} (h : RowsOk wd o rows) (hn : rows.length = 11) (hk : 2 ≤ (allL wd).length) (h0 : tabM wd rows 0 = T0) (h1 : tabM wd rows 1 = T1) {x : Nat} (hx : x < 2047) :
    ∃ u : List Nat, (∀ j ∈ u, j < (allL wd).length) ∧ maskOf (lrun wd rows (allS rows.length) u) = x + 1 := by
  have k0 : okG rows.length (allS rows.length) := okG_all (by omega)
  have m0 : maskOf (allS rows.length) = 2047 := by rw [hn]; decide +kernel
  have key := walkM_ok (t0 := T0) (t1 := T1) (Q := fun m => ∃ u : List Nat, (∀ j ∈ u, j < (allL wd).length) ∧ maskOf (lrun wd rows (allS rows.length) u) = m) (fun m ⟨u, hu, e⟩ => by
    have step : ∀ j, j < (allL wd).length → maskOf (lrun wd rows (allS rows.length) (u ++ [j])) = stepM (tabM wd rows j) m := fun j hj => by
      have k := okG_run h u k0 hu
      have e2 : lrun wd rows (allS rows.length) (u ++ [j]) = lstep wd rows (lrun wd rows (allS rows.length) u) j := by
        unfold lrun
        rw [BF.run_snoc]
      rw [e2, mask_step h hj k.inm, e]
    have dig : ∀ j, j < (allL wd).length → ∀ x ∈ u ++ [j], x < (allL wd).length := fun j hj x hx => by
      rcases List.mem_append.mp hx with q | q
      · exact hu x q
      · rw [List.mem_singleton.mp q]; exact hj
    exact ⟨⟨u ++ [0], dig 0 (by omega), by rw [step 0 (by omega), h0]⟩, ⟨u ++ [1], dig 1 (by omega), by rw [step 1 (by omega), h1]⟩⟩) 3000 [2047] (2 ^ 2047)
    (fun m hm => ⟨[], (fun j hj => nomatch hj), by rw [List.mem_singleton.mp hm]; exact m0⟩)
    (fun y hy => ⟨[], (fun j hj => nomatch hj), by
      rw [Nat.testBit_two_pow, decide_eq_true_eq] at hy
      rw [← hy]
      exact m0⟩) (x + 1)
  rw [walk11] at key
  exact key (bits11 hx)
theorem many_lots {wd o : Nat} {rows : List Row} (h : RowsOk wd o rows) (hn : rows.length = 11) (hk : 2 ≤ (allL wd).length) (h0 : tabM wd rows 0 = T0) (h1 : tabM wd rows 1 = T1) : 2000 < (lotsR wd rows).length := by
  refine Nat.lt_of_not_le fun hle => ?_
  obtain ⟨i, I, hi⟩ := BF.bfsL_inv (step := lstep wd rows) (s0 := allS rows.length) (k := (allL wd).length) (most := 2000) (2000 + 1) [[]] 0 (BF.inv_start _ _ _) (Nat.le_refl _)
  have hle : (BF.bfsL (lstep wd rows) (allS rows.length) (allL wd).length 2000 (2000 + 1) [[]] 0).length ≤ 2000 := hle
  have hi : i = (BF.bfsL (lstep wd rows) (allS rows.length) (allL wd).length 2000 (2000 + 1) [[]] 0).length := by omega
  generalize BF.bfsL (lstep wd rows) (allS rows.length) (allL wd).length 2000 (2000 + 1) [[]] 0 = L at I hle hi
  subst hi
  have hin : ∀ m ∈ (List.range 2047).map (fun x => x + 1), m ∈ (L.map (lrun wd rows (allS rows.length))).map maskOf := fun m hm => by
    obtain ⟨x, hx, rfl⟩ := List.mem_map.mp hm
    obtain ⟨u, hu, e⟩ := all_lots h hn hk h0 h1 (List.mem_range.mp hx)
    rcases I.meets u.length u (Nat.le_refl _) hu with ⟨v, hv, h2, _⟩ | ⟨v, hv, _⟩
    · exact List.mem_map.mpr ⟨lrun wd rows (allS rows.length) v, List.mem_map.mpr ⟨v, hv, rfl⟩, by
        show maskOf (BF.run (lstep wd rows) (allS rows.length) v) = _
        rw [h2]
        exact e⟩
    · rw [List.getElem?_eq_none (Nat.le_refl _)] at hv
      cases hv
  have hnd : ((List.range 2047).map (fun x => x + 1)).Nodup := List.pairwise_map.mpr (List.nodup_range.imp fun {a b} hab => by omega)
  have := nodup_len hnd hin
  rw [List.length_map, List.length_range, List.length_map, List.length_map] at this
  omega
/-- some word brings all states to the first one -/
theorem some_reset {wd o : Nat} {rows : List Row} (h : RowsOk wd o rows) (hn : rows.length = 11) (hk : 2 ≤ (allL wd).length) (h0 : tabM wd rows 0 = T0) (h1 : tabM wd rows 1 = T1) : ∃ u : List Nat, (∀ j ∈ u, j < (allL wd).length) ∧ (lrun wd rows (allS rows.length) u).length = 1 := by
  obtain ⟨u, hu, e⟩ := all_lots h hn hk h0 h1 (x := 0) (by decide)
  refine ⟨u, hu, one_mask (n := rows.length) (okG_run h u (okG_all (by omega)) hu) (s := 0) (by omega) ?_⟩
  rw [e]
/-! ### the wide machine, the broad one -/
def broadR : List Row := (roundR 11).map fun r => r ++ [(0, [0]), (0, [0])]
theorem okBroad : RowsOk 2 1 broadR where
  w4 := by decide
  o4 := by decide
  pos := by decide
  most := by decide
  row := fun r hr => by
    obtain ⟨r0, h0, rfl⟩ := List.mem_map.mp hr
    have k := (okRound (n := 11) (by decide) (by decide)).row r0 h0
    have e1 : (roundR 11).length = 11 := roundR_len 11
    have e2 : broadR.length = 11 := by unfold broadR; rw [List.length_map]; exact e1
    rw [e1] at k
    rw [e2]
    refine ⟨by rw [List.length_append, k.len]; decide, fun g hg => ?_⟩
    rcases List.mem_append.mp hg with hg | hg
    · exact k.goal g hg
    · simp only [List.mem_cons, List.not_mem_nil, or_false] at hg
      rcases hg with rfl | rfl
      · exact ⟨by decide, fun i hi => .inl (List.mem_singleton.mp hi), rfl⟩
      · exact ⟨by decide, fun i hi => .inl (List.mem_singleton.mp hi), rfl⟩
theorem tabs11 : tabM 1 (roundR 11) 0 = T0 ∧ tabM 1 (roundR 11) 1 = T1 ∧ tabM 2 broadR 0 = T0 ∧ tabM 2 broadR 1 = T1 := by decide +kernel
theorem wide_lots : 2000 < (lotsR 1 (roundR 11)).length := many_lots (okRound (by decide) (by decide)) (roundR_len 11) (by decide) tabs11.1 tabs11.2.1
theorem broad_lots : 2000 < (lotsR 2 broadR).length := many_lots okBroad (by decide) (by decide) tabs11.2.2.1 tabs11.2.2.2
theorem wide_reset : ∃ u : List Nat, (∀ j ∈ u, j < (allL 1).length) ∧ (lrun 1 (roundR 11) (allS (roundR 11).length) u).length = 1 := some_reset (okRound (by decide) (by decide)) (roundR_len 11) (by decide) tabs11.1 tabs11.2.1
theorem broad_word : isRs 2 broadR (.lst [tI [1, 0]]) = true := by decide +kernel
end K82
namespace K82
open PySem PySem.Spec PyProof.Rows L2 DL
variable {P : Program} {w : World} {K : PySem.W.Frag} {mg : Str → Option Value} {base : Heap} {C C0 : Addr}
/-! ### _law_round -/
def rrow (n s : Nat) : Row := [((s + 1) % n, [0]), (if s = n - 1 then 0 else s, [1])]
theorem roundR_map (n : Nat) : roundR n = (List.range n).map (rrow n) := rfl
def R_law_round (ds : List D) (r : Res) : Prop := ∃ n : Nat, ds = [.int n] ∧ 2 ≤ n ∧ n ≤ 16 ∧ r = .dat (modD 1 (roundR n))
abbrev C_law_round (P : Program) (w : World) (K : PySem.W.Frag) (mg : Str → Option Value) (base : Heap) : Prop := CE P w K mg base 2 "_law_round" s_law_round p_law_round R_law_round
theorem g_law_round (M : Mod K mg) (c1 : C_law_letters P w K mg base) : C_law_round P w K mg base := by
  refine calP (k := 1) M.law_round sc_law_round 2 (fun ds r h => ?_) fun ds r h f cdv A outer s H hr => ?_
  · obtain ⟨n, rfl, _⟩ := h
    rfl
  · obtain ⟨n, rfl, h2, h16, rfl⟩ := h
    refine Ex.runs (ex_cons (ds_set (i := 1) (de_lst da_nil (.ow 1 _ (by decide) rfl)) sc_law_round.nd) ?_)
    refine ex_forN (T := .one 2) (n := n) (fun i S => ∃ t, S = ⟨[some (.dat (.int n)), some (.own 1), t], [none, some (.lst ((List.range i).map fun s => rowD (rrow n s)))]⟩) rfl (di_rng (n := n) M.blt.range (de_var 0 rfl) (by omega)) (pg_name sc_law_round.nd rfl (.inl rfl)) ⟨none, rfl⟩ ?_ ?_
    · rintro i S hi ⟨t, rfl⟩
      refine ⟨_, rfl, ex_cons (ds_expr (de_append (n := 1) (d := rowD (rrow n i)) (de_var 1 rfl) (de_lst (ds := [goalD ((i + 1) % n, [0]), goalD (if i = n - 1 then 0 else i, [1])]) (da_cons (de_tup (ds := [.int (((i + 1) % n : Nat) : Int), tI [0]]) (da_cons (de_to (u' := .dat (.int (((i + 1) % n : Nat) : Int))) (de_mod (de_intI M.blt.int (de_add (de_var 2 rfl) de_int)) (de_var 0 rfl) (by omega)) rfl) (da_cons (de_tup (da_cons de_int da_nil)) da_nil))) (da_cons (de_tup (ds := [.int ((if i = n - 1 then 0 else i : Nat) : Int), tI [1]]) (da_cons (de_ifB (x := decide (i = n - 1)) (u := .dat (.int ((if i = n - 1 then 0 else i : Nat) : Int))) (dt_to (dt_eqI (de_var 2 rfl) (de_sub (de_var 0 rfl) de_int)) (decide_eq_decide.mpr (by omega))) (fun h => de_to de_int (by rw [if_pos (of_decide_eq_true h)]; rfl)) (fun h => de_to (de_var 2 rfl) (by rw [if_neg (of_decide_eq_false h)]))) (da_cons (de_tup (da_cons de_int da_nil)) da_nil))) da_nil)) (.dl _)) rfl rfl (by rw [List.length_map, List.length_range]; omega))) (ex_nil ⟨some (.dat (.int (i : Nat))), ?_⟩)⟩
      rw [List.range_succ, List.map_append]
      rfl
    · rintro S ⟨t, rfl⟩
      have e : modD 1 (roundR n) = .tup [.lst ((allL 1).map tI), .lst ((List.range n).map fun s => rowD (rrow n s))] := by
        unfold modD rowsD
        rw [roundR_map, List.map_map]
        rfl
      rw [e]
      exact ex_fz (fz_frz 1 (.lst rfl)) (ex_ret (de_tup (da_cons (de_cP c1 hr (da_cons de_int da_nil) ⟨1, rfl, by decide, rfl⟩ (.dat _)) (da_cons (de_var 1 rfl) da_nil))) .dat)
/-! ### _law_heard -/
def R_law_heard (C : Addr) (ds : List D) (r : Res) : Prop := ∃ (wd o : Nat) (rows : List Row), ds = [macD C wd o rows] ∧ RowsOk wd o rows ∧ 2000 < (lotsR wd rows).length ∧ r = .new [.str "lots", .int 2000]
abbrev C_law_heard (P : Program) (w : World) (K : PySem.W.Frag) (mg : Str → Option Value) (base : Heap) (C : Addr) : Prop := CE P w K mg base 6 "_law_heard" s_law_heard p_law_heard (R_law_heard C)
theorem g_law_heard (M : Mod K mg) (T : TooM K mg C0) (e1 : E_reset P w K mg base C C0) : C_law_heard P w K mg base C := by
  refine calP (k := 5) M.law_heard sc_law_heard 2 (fun ds r h => ?_) fun ds r h f cdv A outer s H hr => ?_
  · obtain ⟨wd, o, rows, rfl, _⟩ := h
    rfl
  · obtain ⟨wd, o, rows, rfl, hR, hl, rfl⟩ := h
    refine Ex.runs (ex_cons (ds_set (i := 1) (de_lst da_nil (.dl _)) sc_law_heard.nd) ?_)
    refine ex_cons (S1 := ⟨[some (.dat (macD C wd o rows)), some (.own 1), none], [none, some (.lst [.str "lots", .int 2000])]⟩) (ds_try (i := 2) (C := C0) (ns := ["limit", "what"]) (ds := [.int 2000, .str "lots"]) (S1 := ⟨[some (.dat (macD C wd o rows)), some (.dat (.lst [])), none], [none, none]⟩) (fun a dx => .nx ⟨[some (.dat (macD C wd o rows)), some (.own 1), some (.dat (.exc a dx ["limit", "what"] [.int 2000, .str "lots"]))], [none, some (.lst [.str "lots", .int 2000])]⟩) rfl sc_law_heard.nd T.mgc T.exm (fun pn xe => dx_here ?_) (fun a dx oe pn hz hf => dss_one ?_)) (ex_ret (de_var 1 rfl) (.new (by decide) rfl))
    · exact dx_expr (dxe_call e1 hr (da_cons (de_var 0 rfl) da_nil) ⟨wd, o, rows, rfl, hR, hR.pos, hl, rfl, rfl, rfl⟩)
    · exact ds_set (i := 1) (de_lst (da_cons (de_xf T.xf T.f1 hz hf (de_var 2 rfl) rfl) (da_cons (de_xf T.xf T.f2 hz hf (de_var 2 rfl) rfl) da_nil)) (.ow 1 _ (by decide) rfl)) sc_law_heard.nd
end K82
namespace K82
open PySem PySem.Spec PyProof.Rows L2 DL
variable {P : Program} {w : World} {K : PySem.W.Frag} {mg : Str → Option Value} {base : Heap} {C C0 : Addr}
/-! ### _law_known_right -/
theorem cut_last {α : Type} (xs : List α) (h : xs ≠ []) : (cutA xs none (some (-1))).length < xs.length := by
  have h0 := List.length_pos_iff.mpr h
  unfold cutA HT.sIx
  simp only [List.length_take, List.length_drop]
  rw [if_pos (by omega)]
  omega
theorem cut_first {α : Type} (xs : List α) (h : xs ≠ []) : (cutA xs (some 1) none).length < xs.length := by
  have h0 := List.length_pos_iff.mpr h
  rw [cut1, List.length_tail]
  omega
theorem cut_lw (wd : Nat) (u : List Nat) (lo hi : Option Int) : cutA ((lw wd u).map tI) lo hi = (lw wd (cutA u lo hi)).map tI := by
  unfold lw
  rw [cutA_map, cutA_map]
theorem okWL_lw {wd : Nat} (h : wd ≤ 2) {u : List Nat} (hl : u.length ≤ 10000) (hu : ∀ x ∈ u, x < (allL wd).length) : okWL wd (.lst ((lw wd u).map tI)) := okWL_lst (by rw [List.length_map, lw_len]; exact hl) fun d hd => by
  obtain ⟨l, hl, rfl⟩ := List.mem_map.mp hd
  exact okE1 h (lw_in hu l hl) (by simp [elems1])
def knownP (p : Pot) : Pot := (draw 60 (draw 6 p).2).2
theorem knownP_ok {p : Pot} (h : p.ok) : (knownP p).ok := draw_ok (draw_ok h)
def R_law_known_right (c ds : List D) (r : Res) (c' : List D) : Prop := ∃ p : Pot, c = p.ds ∧ ds = [] ∧ p.ok ∧ r = .dat (.bl true) ∧ c' = (knownP p).ds
abbrev C_law_known_right (P : Program) (w : World) (K : PySem.W.Frag) (mg : Str → Option Value) (base : Heap) : Prop := CO P w K mg base 10 "_law_known_right" s_law_known_right p_law_known_right R_law_known_right
theorem g_law_known_right (M : Mod K mg) (c0 : C_law_draw P w K mg base) (c1 : C_law_round P w K mg base) (c2 : C_law_made P w K mg base C) (c3 : C_reset P w K mg base C) (c4 : C_law_is_reset P w K mg base) (c5 : C_is_reset P w K mg base C) (c6 : C_any_reset P w K mg base C) (c7 : C_law_letters P w K mg base) (c8 : C_law_heard P w K mg base C) (c9 : C_apart P w K mg base C) : C_law_known_right P w K mg base := by
  refine calO (k := 9) M.law_known_right sc_law_known_right 2 (fun c ds r c' h => ?_) fun c ds r c' h f cdv A outer s H hr => ?_
  · obtain ⟨p, rfl, rfl, _⟩ := h
    rfl
  · obtain ⟨p, rfl, rfl, hp, rfl, rfl⟩ := h
    have hp1 : (draw 6 p).2.ok := draw_ok hp
    have hlt := draw_lt (n := 6) (by decide) p
    obtain ⟨q, hq⟩ : ∃ q, (draw 6 p).2 = q := ⟨_, rfl⟩
    obtain ⟨n, hn⟩ : ∃ n, 2 + (draw 6 p).1 = n := ⟨_, rfl⟩
    have hn2 : 2 ≤ n := by omega
    have hn7 : n ≤ 7 := by omega
    have hR := okRound hn2 (by omega : n ≤ 16)
    have hlen := roundR_len n
    have h0 : 0 < (roundR n).length := hR.pos
    obtain ⟨u, eu, hul, hu, hu1, hno⟩ := round_short hn2 hn7
    have F := few_small hR h0 (by omega)
    have hsq : (n - 1) ^ 2 ≤ 36 := by
      have : n = 2 ∨ n = 3 ∨ n = 4 ∨ n = 5 ∨ n = 6 ∨ n = 7 := by omega
      rcases this with rfl | rfl | rfl | rfl | rfl | rfl <;> decide
    have hsq1 : 1 ≤ (n - 1) ^ 2 := Nat.one_le_pow _ _ (by omega)
    have hne : u ≠ [] := fun e => by rw [e] at hul; simp at hul; omega
    cases ea : anyW 1 (roundR n) with
    | none =>
      rw [(any_iff hR h0 F).mp ea] at eu
      cases eu
    | some v =>
      obtain ⟨hv1, hv, hvl⟩ := any_some hR h0 ea
      rw [hlen] at hvl hv1
      have hvl : v.length ≤ 343 := by
        have h1 : n * n ≤ 7 * 7 := Nat.mul_le_mul hn7 hn7
        have h2 : n * n * n ≤ 49 * 7 := Nat.mul_le_mul h1 hn7
        omega
      have r1 : R_reset C [macD C 1 1 (roundR n)] (.new ((lw 1 u).map tI)) := ⟨1, 1, roundR n, rfl, hR, h0, F.few, by rw [eu]; rfl⟩
      have r2 : R_any_reset C [macD C 1 1 (roundR n)] (.new ((lw 1 v).map tI)) := ⟨1, 1, roundR n, rfl, hR, h0, by rw [ea]; rfl⟩
      have hrs : ∀ {t : List Nat} {b : Bool}, (∀ x ∈ t, x < (allL 1).length) → decide ((lrun 1 (roundR n) (allS n) t).length = 1) = b → isRs 1 (roundR n) (.lst ((lw 1 t).map tI)) = b := fun h e => by rw [isRs_lw h, hlen, e]
      have dcut : ∀ lo hi, ∀ x ∈ cutA u lo hi, x < (allL 1).length := fun lo hi x hx => hu x (cutA_mem hx)
      have k3 : isRs 1 (roundR n) (.lst ((lw 1 (cutA u none (some (-1)))).map tI)) = false := hrs (dcut _ _) (decide_eq_false (hno _ (dcut _ _) (by have := cut_last u hne; omega)))
      have k4 : isRs 1 (roundR n) (.lst ((lw 1 (cutA u (some 1) none)).map tI)) = false := hrs (dcut _ _) (decide_eq_false (hno _ (dcut _ _) (by have := cut_first u hne; omega)))
      have cl : ∀ lo hi, (cutA u lo hi).length ≤ 36 := fun lo hi => Nat.le_trans cutA_le (by omega)
      have ok3 := okWL_lw (wd := 1) (by decide) (u := cutA u none (some (-1))) (by have := cl none (some (-1)); omega) (dcut _ _)
      have ok4 := okWL_lw (wd := 1) (by decide) (u := cutA u (some 1) none) (by have := cl (some 1) none; omega) (dcut _ _)
      have r3 : R_is_reset C [macD C 1 1 (roundR n), .lst ((lw 1 (cutA u none (some (-1)))).map tI)] (.dat (.bl false)) := ⟨1, 1, roundR n, _, rfl, hR, ok3.to, by rw [k3]⟩
      have r4 : R_is_reset C [macD C 1 1 (roundR n), .lst ((lw 1 (cutA u (some 1) none)).map tI)] (.dat (.bl false)) := ⟨1, 1, roundR n, _, rfl, hR, ok4.to, by rw [k4]⟩
      have oku := okWL_lw (wd := 1) (by decide) (u := u) (by omega) hu
      have okv := okWL_lw (wd := 1) (by decide) (u := v) (by omega) hv
      refine Ex.runsO (ex_cons (ds_set (i := 1) (u := .dat (.int n)) (S1 := ⟨_, [some (.lst q.ds), none, none]⟩) (de_to (de_add (i := 2) (j := (draw 6 p).1) de_int (de_cO (c' := q.ds) c0 hr (da_cons (de_var 0 rfl) (da_cons de_int da_nil)) rfl ⟨6, p, rfl, rfl, by decide, by decide, hp, rfl, by rw [hq]⟩ (.dat _))) (by rw [← hn, Int.natCast_add]; rfl)) sc_law_known_right.nd) ?_)
      refine ex_cons (ds_set (i := 2) (de_cP c1 hr (da_cons (de_var 1 rfl) da_nil) ⟨n, rfl, hn2, by omega, rfl⟩ (.dat _)) sc_law_known_right.nd) ?_
      refine ex_cons (ds_par (i := 3) (j := 4) (u := .dat (macD C 1 1 (roundR n))) (v := .dat (.lst ((lw 1 u).map tI))) rfl sc_law_known_right.nd (da_cons (de_cP c2 hr (da_cons (de_var 2 rfl) da_nil) ⟨1, 1, roundR n, rfl, hR, rfl⟩ (.dat _)) (by exact da_cons (de_cP c3 hr (da_cons (de_cP c2 hr (da_cons (de_var 2 rfl) da_nil) ⟨1, 1, roundR n, rfl, hR, rfl⟩ (.dat _)) da_nil) r1 (.new (.dl _))) da_nil))) ?_
      refine ex_ifN (dt_to (dt_orB (x := false) (y := false) (dt_to (dt_neI (de_len M.blt.len (de_var 4 rfl) (.lst (.dat _))) (de_pow (i := (n - 1 : Nat)) (j := 2) (de_to (de_sub (de_var 1 rfl) de_int) (by rw [Int.natCast_sub (by omega)]; rfl)) de_int ⟨by decide, by decide, by simp; omega⟩)) (by
        rw [List.length_map, lw_len, hul]
        have : (((n - 1) ^ 2 : Nat) : Int) = ((n - 1 : Nat) : Int) ^ (2 : Int).toNat := by rw [Int.natCast_pow]; rfl
        rw [this]
        simp)) (dt_notF (dt_val (de_cP c4 hr (da_cons (de_var 2 rfl) (da_cons (de_var 4 rfl) da_nil)) ⟨1, 1, roundR n, _, rfl, hR, by decide, oku, by rw [hrs hu (decide_eq_true hu1)]⟩ (.dat _))))) rfl) ?_
      refine ex_ifN (dt_to (dt_orL3 (x := false) (y := false) (v := false) (dt_notF (dt_val (de_cP c5 hr (da_cons (de_var 3 rfl) (da_cons (de_cP c6 hr (da_cons (de_var 3 rfl) da_nil) r2 (.new (.dl _))) da_nil)) ⟨1, 1, roundR n, _, rfl, hR, okv.to, by rw [hrs hv (decide_eq_true hv1)]⟩ (.dat _))))
        (fun _ => dt_val (de_cP c5 hr (da_cons (de_var 3 rfl) (da_cons (de_to (u' := .dat (.lst ((lw 1 (cutA u none (some (-1)))).map tI))) (de_slL (l := none) (h := some (-1)) (de_var 4 rfl) do_none (do_some (de_neg de_int)) (.dat _) (.dl _)) (by rw [cut_lw])) da_nil)) r3 (.dat _)))
        (fun _ _ => dt_val (de_cP c5 hr (da_cons (de_var 3 rfl) (da_cons (de_to (u' := .dat (.lst ((lw 1 (cutA u (some 1) none)).map tI))) (de_slL (l := some 1) (h := none) (de_var 4 rfl) (do_some de_int) do_none (.dat _) (.dl _)) (by rw [cut_lw])) da_nil)) r4 (.dat _)))) rfl) ?_
      have hq1 : q.ok := by rw [← hq]; exact hp1
      have ekn : knownP p = (draw 60 q).2 := by unfold knownP; rw [hq]
      rw [ekn]
      refine ex_ifB (x := decide (0 < (draw 60 q).1)) (S1 := ⟨_, [some (.lst (draw 60 q).2.ds), none, none]⟩) (dt_to (dt_gtI (de_cO c0 hr (da_cons (de_var 0 rfl) (da_cons de_int da_nil)) rfl ⟨60, q, rfl, rfl, by decide, by decide, hq1, rfl, rfl⟩ (.dat _)) de_int) (decide_eq_decide.mpr (by omega))) (fun _ => ex_ret de_bl ⟨.dat, rfl⟩) (fun _ => ex_nil ?_)
      -- eleven states
      have hW := okRound (n := 11) (by decide) (by decide)
      obtain ⟨z, hz, hz1⟩ := wide_reset
      have hap := apart_reset hW (by decide) hz hz1
      have r5 : R_apart C [macD C 1 1 (roundR 11)] (.dat .non) := ⟨1, 1, roundR 11, rfl, hW, by unfold pairsR; rw [if_pos hap]⟩
      have r6 : R_law_heard C [macD C 1 1 (roundR 11)] (.new [.str "lots", .int 2000]) := ⟨1, 1, roundR 11, rfl, hW, wide_lots, rfl⟩
      have r7 : R_law_heard C [macD C 2 1 broadR] (.new [.str "lots", .int 2000]) := ⟨2, 1, broadR, rfl, okBroad, broad_lots, rfl⟩
      have r8 : R_is_reset C [macD C 2 1 broadR, .lst [tI [1, 0]]] (.dat (.bl true)) := ⟨2, 1, broadR, .lst [tI [1, 0]], rfl, okBroad, (okWL_lst (wd := 2) (by simp) fun d hd => by
        rw [List.mem_singleton.mp hd]
        exact okE1 (wd := 2) (by decide) (l := [1, 0]) (by decide) (by simp [elems1])).to, by rw [broad_word]⟩
      cases eb : anyW 1 (roundR 11) with
      | none =>
        obtain ⟨a, b, ha, hb, em⟩ := any_none hW (by decide) eb
        exact absurd em (reset_meets hW hz hz1 ha hb)
      | some y =>
        obtain ⟨hy1, hy, hyl⟩ := any_some hW (by decide) eb
        have r9 : R_any_reset C [macD C 1 1 (roundR 11)] (.new ((lw 1 y).map tI)) := ⟨1, 1, roundR 11, rfl, hW, by decide, by rw [eb]; rfl⟩
        have r10 : R_is_reset C [macD C 1 1 (roundR 11), .lst ((lw 1 y).map tI)] (.dat (.bl true)) := ⟨1, 1, roundR 11, _, rfl, hW, (okWL_lw (wd := 1) (by decide) (by rw [roundR_len] at hyl; omega) hy).to, by rw [isRs_lw hy, decide_eq_true hy1]⟩
        have hlots : eqD (.lst [.str "lots", .int 2000]) (.lst [.str "lots", .int 2000]) = true := by decide +kernel
        have hgood : good 60 (.lst [.str "lots", .int 2000]) = true := by decide +kernel
        have eB : modD 2 broadR = .tup [.lst ((allL 2).map tI), .lst ((roundR 11).map fun r => .lst (r.map goalD ++ [goalD (0, [0]), goalD (0, [0])]))] := by
          unfold modD rowsD broadR
          rw [List.map_map]
          congr 3
        refine ex_cons (ds_par (i := 5) (j := 6) (u := .dat (macD C 1 1 (roundR 11))) (v := .dat (rowsD (roundR 11))) rfl sc_law_known_right.nd (da_cons (de_cP c2 hr (da_cons (de_cP c1 hr (da_cons de_int da_nil) ⟨11, rfl, by decide, by decide, rfl⟩ (.dat _)) da_nil) ⟨1, 1, roundR 11, rfl, hW, rfl⟩ (.dat _)) (by exact da_cons (de_ixT (d := rowsD (roundR 11)) (de_cP c1 hr (da_cons de_int da_nil) ⟨11, rfl, by decide, by decide, rfl⟩ (.dat _)) de_int rfl) da_nil))) ?_
        refine ex_cons (ds_set (i := 7) (u := .dat (macD C 2 1 broadR)) (de_cP c2 hr (da_cons (u := .dat (modD 2 broadR)) (de_to (de_tup (da_cons (de_cP c7 hr (da_cons de_int da_nil) ⟨2, rfl, by decide, rfl⟩ (.dat _)) (da_cons (de_lcD (es := (roundR 11).map fun r => .lst (r.map goalD ++ [goalD (0, [0]), goalD (0, [0])])) [("_law_row", 8)] (fun d => match d with
          | .lst ds => .lst (ds ++ [goalD (0, [0]), goalD (0, [0])])
          | d => d) (T := .one 8) rfl sc_law_known_right.nd (di_lst (de_var 6 rfl)) (blkOk_by (N := n_law_known_right) (sc := defScope s_law_known_right) (by decide +kernel)) rfl (fun _ _ _ _ _ => pg_name sc_law_known_right.nd rfl (.inl rfl)) (fun d hd => ?_) (by rw [List.map_map]; rfl) (by rw [List.length_map, roundR_len]; decide)) da_nil))) (by rw [eB])) da_nil) ⟨2, 1, broadR, rfl, okBroad, rfl⟩ (.dat _)) sc_law_known_right.nd) ?_
        · obtain ⟨r, hr2, rfl⟩ := List.mem_map.mp hd
          have hr3 := (hW.row r hr2).len
          rw [allL1] at hr3
          exact ⟨_, _, rfl, fun _ _ _ _ _ => de_cat (es' := [goalD (0, [0]), goalD (0, [0])]) (de_var 8 rfl) (de_lst (da_cons (de_tup (da_cons de_int (da_cons (de_tup (da_cons de_int da_nil)) da_nil))) (da_cons (de_tup (da_cons de_int (da_cons (de_tup (da_cons de_int da_nil)) da_nil))) da_nil)) (.dl _)) (.dat _) (.dat _) (by rw [List.length_map, hr3]; decide) (.dl _), rfl⟩
        refine ex_ifN (dt_to (dt_orB (x := false) (y := false) (dt_to (dt_neD (d := .lst [.str "lots", .int 2000]) (d' := .lst [.str "lots", .int 2000]) hr.u64 (de_cP c8 hr (da_cons (de_var 5 rfl) da_nil) r6 (.new (.dl _))) (de_lst (da_cons de_str (da_cons de_int da_nil)) (.dl _)) (.dat _) (.dat _) hgood hgood) (by rw [hlots]; rfl)) (dt_to (dt_neD (d := .lst [.str "lots", .int 2000]) (d' := .lst [.str "lots", .int 2000]) hr.u64 (de_cP c8 hr (da_cons (de_var 7 rfl) da_nil) r7 (.new (.dl _))) (de_lst (da_cons de_str (da_cons de_int da_nil)) (.dl _)) (.dat _) (.dat _) hgood hgood) (by rw [hlots]; rfl))) rfl) ?_
        exact ex_ret (de_andT (de_to (de_isN (de_cP c9 hr (da_cons (de_var 5 rfl) da_nil) r5 (.dat _))) rfl) (de_andT (de_cP c5 hr (da_cons (de_var 5 rfl) (da_cons (de_cP c6 hr (da_cons (de_var 5 rfl) da_nil) r9 (.new (.dl _))) da_nil)) r10 (.dat _)) (de_one (de_cP c5 hr (da_cons (de_var 7 rfl) (da_cons (de_lst (da_cons (de_tup (da_cons de_int (da_cons de_int da_nil))) da_nil) (.dl _)) da_nil)) r8 (.dat _))))) ⟨.dat, rfl⟩
end K82
namespace K82
open PySem PySem.Spec PyProof.Rows L2 DL
variable {P : Program} {w : World} {K : PySem.W.Frag} {mg : Str → Option Value} {base : Heap} {C : Addr}
/-! ### _law_pot -/
def cellF (ns : List Int) (k : Nat) : Nat := if k < ns.length then (ns.getD k 0).natAbs else 137 * k + 61
def potF (ns : List Int) (k : Nat) : Pot := ⟨cellF ns k - 10 ^ 18, ((cellF ns k % 2147483563) * 42043 + 7019 * k + 57) % 2147483587 + 1⟩
theorem potF_ok {ns : List Int} {k : Nat} : (potF ns k).ok := by
  show _ % 2147483587 + 1 ≤ 2147483647
  omega
def R_law_pot (ds : List D) (r : Res) : Prop := ∃ (ns : List Int) (k : Nat), ds = [.rol (ns.map .int), .int k] ∧ k ≤ 10 ∧ ns.length ≤ 63 ∧ r = .new (potF ns k).ds
abbrev C_law_pot (P : Program) (w : World) (K : PySem.W.Frag) (mg : Str → Option Value) (base : Heap) : Prop := CE P w K mg base 1 "_law_pot" s_law_pot p_law_pot R_law_pot
theorem g_law_pot (M : Mod K mg) : C_law_pot P w K mg base := by
  refine calP (k := 0) M.law_pot sc_law_pot 2 (fun ds r h => ?_) fun ds r h f cdv A outer s H hr => ?_
  · obtain ⟨ns, k, rfl, _⟩ := h
    rfl
  · obtain ⟨ns, k, rfl, hk, hz, rfl⟩ := h
    refine Ex.runs (ex_cons (ds_set (i := 2) (S1 := st0 n_law_pot [D.rol (ns.map D.int), D.int k] 2) (u := .dat (.int (cellF ns k : Nat))) (de_ifB (x := decide (k < ns.length)) (dt_to (dt_ltI (de_var 1 rfl) (de_len M.blt.len (de_var 0 rfl) (.rol _))) (by rw [List.length_map]; exact decide_eq_decide.mpr (by omega))) (fun hx => ?_) (fun hx => ?_)) sc_law_pot.nd) ?_)
    · have hx := of_decide_eq_true hx
      have e : atI (ns.map D.int) (k : Nat) = some (.int (ns.getD k 0)) := atI_map hx
      refine de_to (de_abs M.blt.abs (de_ix (de_var 0 rfl) (de_var 1 rfl) (opd_ixR e))) ?_
      unfold cellF
      rw [if_pos hx]
      congr 2
      split <;> omega
    · have hx : ¬ k < ns.length := by simpa using hx
      refine de_to (de_add (de_mul de_int (de_var 1 rfl) (.inl (by decide))) de_int) ?_
      unfold cellF
      rw [if_neg hx]
      congr 2
    · have e1 : (D.int (if ((cellF ns k : Nat) : Int) - (10 : Int) ^ (18 : Int).toNat > 0 then ((cellF ns k : Nat) : Int) - (10 : Int) ^ (18 : Int).toNat else 0)) = .int ((potF ns k).a : Nat) := by
        have e18 : (10 : Int) ^ (18 : Int).toNat = 1000000000000000000 := by decide
        rw [e18]
        show _ = D.int ((cellF ns k - 10 ^ 18 : Nat) : Int)
        congr 1
        split <;> omega
      have e2 : (D.int (((((cellF ns k : Nat) : Int) % 2147483563 * 42043 + 7019 * (k : Int)) + 57) % 2147483587 + 1)) = .int ((potF ns k).b : Nat) := by
        show _ = D.int (((cellF ns k % 2147483563 * 42043 + 7019 * k + 57) % 2147483587 + 1 : Nat) : Int)
        congr 1
      refine ex_ret (de_lst (ds := (potF ns k).ds) (da_cons (de_to (de_max2 rfl M.blt.max de_int (de_sub (de_var 2 rfl) (de_pow de_int de_int ?_))) (congrArg U.dat e1)) (da_cons (de_to (de_add (de_mod (de_intI M.blt.int (de_add (de_add (de_mul (de_mod (de_intI M.blt.int (de_var 2 rfl)) de_int (by decide)) de_int (.inr (by decide))) (de_mul de_int (de_var 1 rfl) (.inl (by decide)))) de_int)) de_int (by decide)) de_int) (congrArg U.dat e2)) da_nil)) (.ow 1 _ (by decide) rfl)) (.new (by decide) rfl)
      exact ⟨by decide, by decide, by decide⟩
end K82
namespace K82
open PySem PySem.Spec PyProof.Rows L2 DL
variable {P : Program} {w : World} {K : PySem.W.Frag} {mg : Str → Option Value} {base : Heap} {C : Addr}
/-! ### _law_right -/
def modelP (most : Nat) (p : Pot) : Pot := oneP (mW p) (mR most p).1 (mR most p).2
theorem modelP_ok {most : Nat} {p : Pot} (h : p.ok) : (modelP most p).ok := oneP_ok (mR_pot h)
def rightP (p : Pot) : Pot := knownP (modelP 3 (modelP 6 p))
def R_law_right (c ds : List D) (r : Res) (c' : List D) : Prop := ∃ p : Pot, c = p.ds ∧ ds = [] ∧ p.ok ∧ r = .dat (.bl true) ∧ c' = (rightP p).ds
abbrev C_law_right (P : Program) (w : World) (K : PySem.W.Frag) (mg : Str → Option Value) (base : Heap) : Prop := CO P w K mg base 11 "_law_right" s_law_right p_law_right R_law_right
theorem g_law_right (M : Mod K mg) (c1 : C_law_model P w K mg base) (c2 : C_law_one_right P w K mg base C) (c3 : C_law_known_right P w K mg base) : C_law_right P w K mg base := by
  refine calO (k := 10) M.law_right sc_law_right 0 (fun c ds r c' h => ?_) fun c ds r c' h f cdv A outer s H hr => ?_
  · obtain ⟨p, rfl, rfl, _⟩ := h
    rfl
  · obtain ⟨p, rfl, rfl, hp, rfl, rfl⟩ := h
    have fact : ∀ (most : Nat) (p : Pot), 0 < most → most ≤ 6 → p.ok → ∃ (wd o : Nat) (rows : List Row) (q : Pot), RowsOk wd o rows ∧ wd ≤ 2 ∧ rows.length ≤ 6 ∧ q.ok ∧ mW p = wd ∧ (mR most p).1 = rows ∧ (mR most p).2 = q ∧ oneP wd rows q = modelP most p := fun most p h0 h6 hp =>
      ⟨mW p, mO p, (mR most p).1, (mR most p).2, mR_ok h0 (by omega), pickW_le p, Nat.le_trans (mR_len h0) h6, mR_pot hp, rfl, rfl, rfl, rfl⟩
    have hq := modelP_ok (most := 6) hp
    have hz := modelP_ok (most := 3) hq
    have er : rightP p = knownP (modelP 3 (modelP 6 p)) := rfl
    rw [er]
    obtain ⟨wd1, o1, rows1, q1, hR1, w1, l1, k1, a1, a2, a3, a4⟩ := fact 6 p (by decide) (by decide) hp
    generalize modelP 6 p = q at hq hz a4
    obtain ⟨wd2, o2, rows2, q2, hR2, w2, l2, k2, b1, b2, b3, b4⟩ := fact 3 q (by decide) (by decide) hq
    generalize modelP 3 q = z at hz b4
    refine Ex.runsO (ex_ifN (S1 := ⟨[some (.own 0)], [some (.lst z.ds)]⟩) (DW.dt (dw_orF (S1 := ⟨[some (.own 0)], [some (.lst q.ds)]⟩) (dt_notF (dt_val (de_cO (c := q1.ds) (c' := q.ds) (ds := [modD wd1 rows1]) c2 hr (da_cons (de_var 0 rfl) (da_cons (S1 := ⟨_, [some (.lst q1.ds)]⟩) (de_cO (c' := q1.ds) (r := .dat (modD wd1 rows1)) c1 hr (da_cons (de_var 0 rfl) (da_cons de_int da_nil)) rfl ⟨6, p, rfl, rfl, by decide, by decide, hp, by rw [a1, a2], by rw [a3]⟩ (.dat _)) da_nil)) rfl ⟨wd1, o1, rows1, q1, rfl, rfl, hR1, w1, hR1.pos, l1, k1, rfl, by rw [a4]⟩ (.dat _))))
      (dw_or1 (dt_notF (dt_val (de_cO (c := q2.ds) (c' := z.ds) (ds := [modD wd2 rows2]) c2 hr (da_cons (de_var 0 rfl) (da_cons (S1 := ⟨_, [some (.lst q2.ds)]⟩) (de_cO (c' := q2.ds) (r := .dat (modD wd2 rows2)) c1 hr (da_cons (de_var 0 rfl) (da_cons de_int da_nil)) rfl ⟨3, q, rfl, rfl, by decide, by decide, hq, by rw [b1, b2], by rw [b3]⟩ (.dat _)) da_nil)) rfl ⟨wd2, o2, rows2, q2, rfl, rfl, hR2, w2, hR2.pos, l2, k2, rfl, by rw [b4]⟩ (.dat _))))))) ?_)
    exact ex_ret (de_cO (c' := (knownP z).ds) c3 hr (da_cons (de_var 0 rfl) da_nil) rfl ⟨z, rfl, rfl, hz, rfl, rfl⟩ (.dat _)) ⟨.dat, rfl⟩
def R_law (ds : List D) (r : Res) : Prop := ∃ ns : List Int, ds = [.rol (ns.map .int)] ∧ ns.length ≤ 63 ∧ r = .dat (.bl true)
abbrev C_law (P : Program) (w : World) (K : PySem.W.Frag) (mg : Str → Option Value) (base : Heap) : Prop := CE P w K mg base 12 "law" s_law p_law R_law
theorem g_law (M : Mod K mg) (c0 : C_law_pot P w K mg base) (c1 : C_law_right P w K mg base) : C_law P w K mg base := by
  refine calP (k := 11) M.law sc_law 2 (fun ds r h => ?_) fun ds r h f cdv A outer s H hr => ?_
  · obtain ⟨ns, rfl, _⟩ := h
    rfl
  · obtain ⟨ns, rfl, hz, rfl⟩ := h
    obtain ⟨n, hn⟩ : ∃ n : Nat, (ns.length ≤ 1 ∧ n = 1) ∨ (1 < ns.length ∧ n = 2) := by
      by_cases h : ns.length ≤ 1
      · exact ⟨1, .inl ⟨h, rfl⟩⟩
      · exact ⟨2, .inr ⟨by omega, rfl⟩⟩
    refine Ex.runs (ex_ret (de_to (de_allLc [("_law_k", 1)] (T := .one 1) (fun _ => true) rfl M.blt.all sc_law.nd (di_rng (n := n) M.blt.range (de_to (de_max2 rfl M.blt.max de_int (de_min2 rfl M.blt.min de_int (de_len M.blt.len (de_var 0 rfl) (.rol _)))) ?_) ?_) (blkOk_by (N := n_law) (sc := defScope s_law) (by decide +kernel)) rfl (fun _ _ _ _ _ => pg_name sc_law.nd rfl (.inl rfl)) (fun d hd => ?_) ?_) (by simp)) .dat)
    · rw [List.length_map]
      congr 2
      split <;> split <;> omega
    · omega
    · obtain ⟨k, hk, rfl⟩ := List.mem_map.mp hd
      have hk := List.mem_range.mp hk
      have hk2 : k ≤ 10 := by omega
      exact ⟨_, _, rfl, fun _ _ _ _ _ => de_drop 1 (de_cO c1 hr (da_cons (de_cP c0 hr (da_cons (de_var 0 rfl) (da_cons (de_var 1 rfl) da_nil)) ⟨ns, k, rfl, hk2, hz, rfl⟩ (.new (.ow 1 _ (by decide) rfl))) da_nil) rfl ⟨potF ns k, rfl, rfl, potF_ok, rfl, rfl⟩ (.dat _)) rfl (.inl rfl), rfl⟩
    · rw [rngN_len]
      omega
end K82
set_option maxHeartbeats 0
namespace K82
open PySem PySem.Spec PyProof.Rows L2 DL
/-! ### what the top has written -/
def loose0 : List Str := ["_wall", "__name__", "WireError", "InvalidWidth", "InvalidWord", "InvalidRows", "LimitError", "TooMany", "is_integer", "is_count", "is_bit", "is_list", "is_letter", "is_word", "all_letters", "MOST_WIDE", "want_width", "is_goal", "are_goals", "want_rows", "number_of", "Machine", "MOST_STATES", "MOST_LOTS", "is_state_of", "is_lot", "want_few_states", "moves_of", "all_states", "next_lot"]
def loose1 : List Str := ["led_by", "words_to_lots", "word_together", "meeting_by", "pair_behind", "pairs_apart", "apart", "is_pair_of", "is_apart", "reset", "any_reset", "is_reset", "_law_pot", "_law_draw", "_law_pick", "_law_mixed", "_law_letters", "_law_rows", "_law_model", "_law_made", "_law_goal", "_law_run", "_law_word", "_law_lot_behind", "_law_reset", "_law_is_reset", "_law_values", "_law_values_right", "_law_one_right", "_law_round"]
def loose2 : List Str := ["_law_known_right", "_law_heard", "_law_right"]
def loose : List Str := loose0 ++ loose1 ++ loose2
abbrev HR : PySem.W.OpenRow := PySem.W.OpenLaw.row PySem.Challenge.rw_wirewords_k82_whole_resets_or_apart
abbrev qv : PySem.Program := PySem.W.view HR.prog [67]
def fns0 : List FnA := [⟨gloAd "is_integer", "is_integer", "is_integer", s_is_integer⟩,
  ⟨gloAd "is_count", "is_count", "is_count", s_is_count⟩,
  ⟨gloAd "is_bit", "is_bit", "is_bit", s_is_bit⟩,
  ⟨gloAd "is_list", "is_list", "is_list", s_is_list⟩,
  ⟨gloAd "is_letter", "is_letter", "is_letter", s_is_letter⟩,
  ⟨gloAd "is_word", "is_word", "is_word", s_is_word⟩,
  ⟨gloAd "all_letters", "all_letters", "all_letters", s_all_letters⟩,
  ⟨gloAd "want_width", "want_width", "want_width", s_want_width⟩,
  ⟨gloAd "is_goal", "is_goal", "is_goal", s_is_goal⟩,
  ⟨gloAd "are_goals", "are_goals", "are_goals", s_are_goals⟩,
  ⟨gloAd "want_rows", "want_rows", "want_rows", s_want_rows⟩,
  ⟨gloAd "number_of", "number_of", "number_of", s_number_of⟩,
  ⟨gloAd "is_state_of", "is_state_of", "is_state_of", s_is_state_of⟩,
  ⟨gloAd "is_lot", "is_lot", "is_lot", s_is_lot⟩,
  ⟨gloAd "want_few_states", "want_few_states", "want_few_states", s_want_few_states⟩,
  ⟨gloAd "moves_of", "moves_of", "moves_of", s_moves_of⟩,
  ⟨gloAd "all_states", "all_states", "all_states", s_all_states⟩,
  ⟨gloAd "next_lot", "next_lot", "next_lot", s_next_lot⟩,
  ⟨gloAd "led_by", "led_by", "led_by", s_led_by⟩,
  ⟨gloAd "words_to_lots", "words_to_lots", "words_to_lots", s_words_to_lots⟩]
def fns1 : List FnA := [⟨gloAd "word_together", "word_together", "word_together", s_word_together⟩,
  ⟨gloAd "meeting_by", "meeting_by", "meeting_by", s_meeting_by⟩,
  ⟨gloAd "pair_behind", "pair_behind", "pair_behind", s_pair_behind⟩,
  ⟨gloAd "pairs_apart", "pairs_apart", "pairs_apart", s_pairs_apart⟩,
  ⟨gloAd "apart", "apart", "apart", s_apart⟩,
  ⟨gloAd "is_pair_of", "is_pair_of", "is_pair_of", s_is_pair_of⟩,
  ⟨gloAd "is_apart", "is_apart", "is_apart", s_is_apart⟩,
  ⟨gloAd "reset", "reset", "reset", s_reset⟩,
  ⟨gloAd "any_reset", "any_reset", "any_reset", s_any_reset⟩,
  ⟨gloAd "is_reset", "is_reset", "is_reset", s_is_reset⟩,
  ⟨gloAd "_law_pot", "_law_pot", "_law_pot", s_law_pot⟩,
  ⟨gloAd "_law_draw", "_law_draw", "_law_draw", s_law_draw⟩,
  ⟨gloAd "_law_pick", "_law_pick", "_law_pick", s_law_pick⟩,
  ⟨gloAd "_law_mixed", "_law_mixed", "_law_mixed", s_law_mixed⟩,
  ⟨gloAd "_law_letters", "_law_letters", "_law_letters", s_law_letters⟩,
  ⟨gloAd "_law_rows", "_law_rows", "_law_rows", s_law_rows⟩,
  ⟨gloAd "_law_model", "_law_model", "_law_model", s_law_model⟩,
  ⟨gloAd "_law_made", "_law_made", "_law_made", s_law_made⟩,
  ⟨gloAd "_law_goal", "_law_goal", "_law_goal", s_law_goal⟩,
  ⟨gloAd "_law_run", "_law_run", "_law_run", s_law_run⟩]
def fns2 : List FnA := [⟨gloAd "_law_word", "_law_word", "_law_word", s_law_word⟩,
  ⟨gloAd "_law_lot_behind", "_law_lot_behind", "_law_lot_behind", s_law_lot_behind⟩,
  ⟨gloAd "_law_reset", "_law_reset", "_law_reset", s_law_reset⟩,
  ⟨gloAd "_law_is_reset", "_law_is_reset", "_law_is_reset", s_law_is_reset⟩,
  ⟨gloAd "_law_values", "_law_values", "_law_values", s_law_values⟩,
  ⟨gloAd "_law_values_right", "_law_values_right", "_law_values_right", s_law_values_right⟩,
  ⟨gloAd "_law_one_right", "_law_one_right", "_law_one_right", s_law_one_right⟩,
  ⟨gloAd "_law_round", "_law_round", "_law_round", s_law_round⟩,
  ⟨gloAd "_law_known_right", "_law_known_right", "_law_known_right", s_law_known_right⟩,
  ⟨gloAd "_law_heard", "_law_heard", "_law_heard", s_law_heard⟩,
  ⟨gloAd "_law_right", "_law_right", "_law_right", s_law_right⟩,
  ⟨gloAd "law", "law", "law", s_law⟩,
  ⟨metAd "Machine" "__init__", "__init__", "Machine.__init__", s_Cinit⟩,
  ⟨propAd "Machine" "width", "width", "Machine.width", s_Cwidth⟩,
  ⟨metAd "Machine" "letters", "letters", "Machine.letters", s_Cletters⟩,
  ⟨metAd "Machine" "rows", "rows", "Machine.rows", s_Crows⟩,
  ⟨metAd "Machine" "__len__", "__len__", "Machine.__len__", s_Clen⟩,
  ⟨metAd "Machine" "__eq__", "__eq__", "Machine.__eq__", s_Ceq⟩,
  ⟨metAd "Machine" "__repr__", "__repr__", "Machine.__repr__", s_Crepr⟩,
  ⟨metAd "TooMany" "__init__", "__init__", "TooMany.__init__", s_ETooMany⟩]
def fns : List FnA := fns0 ++ fns1 ++ fns2
def fas0 : List He.Fa := [.free "abs", .free "all", .free "bool", .free "dict", .free "divmod", .free "enumerate", .free "int", .free "isinstance", .free "len", .free "list", .free "max", .free "min", .free "range", .free "repr", .free "set", .free "sorted", .free "sum", .free "tuple", .free "zip", .glo "is_integer", .glo "is_count", .glo "is_bit", .glo "is_list", .glo "is_letter", .glo "is_word", .glo "all_letters", .glo "want_width", .glo "is_goal", .glo "are_goals", .glo "want_rows"]
def fas1 : List He.Fa := [.glo "number_of", .glo "is_state_of", .glo "is_lot", .glo "want_few_states", .glo "moves_of", .glo "all_states", .glo "next_lot", .glo "led_by", .glo "words_to_lots", .glo "word_together", .glo "meeting_by", .glo "pair_behind", .glo "pairs_apart", .glo "apart", .glo "is_pair_of", .glo "is_apart", .glo "reset", .glo "any_reset", .glo "is_reset", .glo "_law_pot", .glo "_law_draw", .glo "_law_pick", .glo "_law_mixed", .glo "_law_letters", .glo "_law_rows", .glo "_law_model", .glo "_law_made", .glo "_law_goal", .glo "_law_run", .glo "_law_word"]
def fas2 : List He.Fa := [.glo "_law_lot_behind", .glo "_law_reset", .glo "_law_is_reset", .glo "_law_values", .glo "_law_values_right", .glo "_law_one_right", .glo "_law_round", .glo "_law_known_right", .glo "_law_heard", .glo "_law_right", .glo "law", .int "MOST_WIDE" 4, .int "MOST_STATES" 16, .int "MOST_LOTS" 2000, .glo "Machine", .mkr "Machine", .noat "Machine" "own_width", .noat "Machine" "own_outputs", .noat "Machine" "own_rows", .meth "Machine" "letters", .meth "Machine" "rows", .meth "Machine" "__len__", .meth "Machine" "__eq__", .meth "Machine" "__repr__", .glo "TooMany", .glo "LimitError"]
def fas : List He.Fa := fas0 ++ fas1 ++ fas2
def fxs : List (PySem.W.Frag → Bool) := [propB "Machine" "width", iscB "Machine", cintB "Machine" "MOST_STATES" 64, excKB "TooMany" bmA "ArithmeticError.__new__", excIB "TooMany", basIB "LimitError" "ArithmeticError.__init__", freeF "TooMany" "what", freeF "TooMany" "limit", xfBx "TooMany", exmB "TooMany"]
def topChk (K : PySem.W.Frag) : Bool := (fas.all fun f => f.ok K) && fxs.all fun f => f K
def hfs0 : List Str := ["is_integer", "is_count", "is_bit", "is_list", "is_letter", "is_word", "all_letters", "want_width", "is_goal", "are_goals", "want_rows", "number_of", "is_state_of", "is_lot", "want_few_states", "moves_of", "all_states", "next_lot", "led_by", "words_to_lots", "word_together", "meeting_by", "pair_behind", "pairs_apart", "apart", "is_pair_of", "is_apart", "reset", "any_reset", "is_reset"]
def hfs1 : List Str := ["_law_pot", "_law_draw", "_law_pick", "_law_mixed", "_law_letters", "_law_rows", "_law_model", "_law_made", "_law_goal", "_law_run", "_law_word", "_law_lot_behind", "_law_reset", "_law_is_reset", "_law_values", "_law_values_right", "_law_one_right", "_law_round", "_law_known_right", "_law_heard", "_law_right", "law"]
def hfs : List Str := hfs0 ++ hfs1
def hcs : List Str := ["Machine", "TooMany", "LimitError"]
abbrev hk : PySem.W.Hook := hookC hfs hcs topChk fns
def ob (s : PySem.W.SharedT) : AlC := obsCG hfs hcs topChk fns (HandSHeadRun.getT s)
theorem ob_eq (s : PySem.W.SharedT) : ob s = hk.obs s.abs := obsCG_eq (HandSHeadRun.getT_eq s)
theorem run (w : World) : HandSHeadRun.RunEq HR qv hk ob 20000 loose w := by
  intro os
  kernel_rfl
section
variable {K : PySem.W.Frag} {h : Heap} {mg : Str → Option Value}
theorem fa_ok (c : SaysC topChk fns K) (i : Nat) {f : He.Fa} (e : fas[i]? = some f := by rfl) : f.ok K = true := List.all_eq_true.mp (He.ba c.all).1 f (List.mem_of_getElem? e)
theorem fx_ok (c : SaysC topChk fns K) (i : Nat) {f : PySem.W.Frag → Bool} (e : fxs[i]? = some f := by rfl) : f K = true := List.all_eq_true.mp (He.ba c.all).2 f (List.mem_of_getElem? e)
theorem fun_of (X : K.In h) (G : h.Ns mainGlobals mg) {x : Str} {st : Stmt} {ps : List Str} (g : (He.Fa.glo x).ok K = true) (d : ∃ fd, Fun K x x st (gloAd x K) fd)
    (b : ∀ (kV doc pm : Value) (an : Option Addr) (cdv ct : Value) (us : List Value), us.length = ps.length → bindArgs (PySem.W.fnOf x x (defArgs st) (defBody st) (defScope st) .none kV doc pm an cdv ct) ⟨us, []⟩ = pure (ps.zip us)) : FunX K mg x st ps := by
  obtain ⟨fd, F⟩ := d
  exact ⟨_, fd, F, He.glo_ok X G g, F.binds b⟩
theorem mod_of (X : K.In h) (G : h.Ns mainGlobals mg) (c : SaysC topChk fns K) : Mod K mg where
  blt := ⟨He.free_ok X G (fa_ok c 0), He.free_ok X G (fa_ok c 1), He.free_ok X G (fa_ok c 2), He.free_ok X G (fa_ok c 3), He.free_ok X G (fa_ok c 4), He.free_ok X G (fa_ok c 5), He.free_ok X G (fa_ok c 6), He.free_ok X G (fa_ok c 7), He.free_ok X G (fa_ok c 8), He.free_ok X G (fa_ok c 9), He.free_ok X G (fa_ok c 10), He.free_ok X G (fa_ok c 11), He.free_ok X G (fa_ok c 12), He.free_ok X G (fa_ok c 13), He.free_ok X G (fa_ok c 14), He.free_ok X G (fa_ok c 15), He.free_ok X G (fa_ok c 16), He.free_ok X G (fa_ok c 17), He.free_ok X G (fa_ok c 18)⟩
  is_integer := fun_of X G (fa_ok c 19) (c.def_ 0 (d := ⟨gloAd "is_integer", "is_integer", "is_integer", s_is_integer⟩)) fun _ _ _ _ _ _ us hl => match us, hl with | [_], _ => rfl
  is_count := fun_of X G (fa_ok c 20) (c.def_ 1 (d := ⟨gloAd "is_count", "is_count", "is_count", s_is_count⟩)) fun _ _ _ _ _ _ us hl => match us, hl with | [_], _ => rfl
  is_bit := fun_of X G (fa_ok c 21) (c.def_ 2 (d := ⟨gloAd "is_bit", "is_bit", "is_bit", s_is_bit⟩)) fun _ _ _ _ _ _ us hl => match us, hl with | [_], _ => rfl
  is_list := fun_of X G (fa_ok c 22) (c.def_ 3 (d := ⟨gloAd "is_list", "is_list", "is_list", s_is_list⟩)) fun _ _ _ _ _ _ us hl => match us, hl with | [_], _ => rfl
  is_letter := fun_of X G (fa_ok c 23) (c.def_ 4 (d := ⟨gloAd "is_letter", "is_letter", "is_letter", s_is_letter⟩)) fun _ _ _ _ _ _ us hl => match us, hl with | [_, _], _ => rfl
  is_word := fun_of X G (fa_ok c 24) (c.def_ 5 (d := ⟨gloAd "is_word", "is_word", "is_word", s_is_word⟩)) fun _ _ _ _ _ _ us hl => match us, hl with | [_, _], _ => rfl
  all_letters := fun_of X G (fa_ok c 25) (c.def_ 6 (d := ⟨gloAd "all_letters", "all_letters", "all_letters", s_all_letters⟩)) fun _ _ _ _ _ _ us hl => match us, hl with | [_], _ => rfl
  want_width := fun_of X G (fa_ok c 26) (c.def_ 7 (d := ⟨gloAd "want_width", "want_width", "want_width", s_want_width⟩)) fun _ _ _ _ _ _ us hl => match us, hl with | [_], _ => rfl
  is_goal := fun_of X G (fa_ok c 27) (c.def_ 8 (d := ⟨gloAd "is_goal", "is_goal", "is_goal", s_is_goal⟩)) fun _ _ _ _ _ _ us hl => match us, hl with | [_, _, _], _ => rfl
  are_goals := fun_of X G (fa_ok c 28) (c.def_ 9 (d := ⟨gloAd "are_goals", "are_goals", "are_goals", s_are_goals⟩)) fun _ _ _ _ _ _ us hl => match us, hl with | [_, _, _, _], _ => rfl
  want_rows := fun_of X G (fa_ok c 29) (c.def_ 10 (d := ⟨gloAd "want_rows", "want_rows", "want_rows", s_want_rows⟩)) fun _ _ _ _ _ _ us hl => match us, hl with | [_, _, _], _ => rfl
  number_of := fun_of X G (fa_ok c 30) (c.def_ 11 (d := ⟨gloAd "number_of", "number_of", "number_of", s_number_of⟩)) fun _ _ _ _ _ _ us hl => match us, hl with | [_], _ => rfl
  is_state_of := fun_of X G (fa_ok c 31) (c.def_ 12 (d := ⟨gloAd "is_state_of", "is_state_of", "is_state_of", s_is_state_of⟩)) fun _ _ _ _ _ _ us hl => match us, hl with | [_, _], _ => rfl
  is_lot := fun_of X G (fa_ok c 32) (c.def_ 13 (d := ⟨gloAd "is_lot", "is_lot", "is_lot", s_is_lot⟩)) fun _ _ _ _ _ _ us hl => match us, hl with | [_, _], _ => rfl
  want_few_states := fun_of X G (fa_ok c 33) (c.def_ 14 (d := ⟨gloAd "want_few_states", "want_few_states", "want_few_states", s_want_few_states⟩)) fun _ _ _ _ _ _ us hl => match us, hl with | [_], _ => rfl
  moves_of := fun_of X G (fa_ok c 34) (c.def_ 15 (d := ⟨gloAd "moves_of", "moves_of", "moves_of", s_moves_of⟩)) fun _ _ _ _ _ _ us hl => match us, hl with | [_], _ => rfl
  all_states := fun_of X G (fa_ok c 35) (c.def_ 16 (d := ⟨gloAd "all_states", "all_states", "all_states", s_all_states⟩)) fun _ _ _ _ _ _ us hl => match us, hl with | [_], _ => rfl
  next_lot := fun_of X G (fa_ok c 36) (c.def_ 17 (d := ⟨gloAd "next_lot", "next_lot", "next_lot", s_next_lot⟩)) fun _ _ _ _ _ _ us hl => match us, hl with | [_, _, _], _ => rfl
  led_by := fun_of X G (fa_ok c 37) (c.def_ 18 (d := ⟨gloAd "led_by", "led_by", "led_by", s_led_by⟩)) fun _ _ _ _ _ _ us hl => match us, hl with | [_, _, _], _ => rfl
  words_to_lots := fun_of X G (fa_ok c 38) (c.def_ 19 (d := ⟨gloAd "words_to_lots", "words_to_lots", "words_to_lots", s_words_to_lots⟩)) fun _ _ _ _ _ _ us hl => match us, hl with | [_, _, _], _ => rfl
  word_together := fun_of X G (fa_ok c 39) (c.def_ 20 (d := ⟨gloAd "word_together", "word_together", "word_together", s_word_together⟩)) fun _ _ _ _ _ _ us hl => match us, hl with | [_], _ => rfl
  meeting_by := fun_of X G (fa_ok c 40) (c.def_ 21 (d := ⟨gloAd "meeting_by", "meeting_by", "meeting_by", s_meeting_by⟩)) fun _ _ _ _ _ _ us hl => match us, hl with | [_, _, _], _ => rfl
  pair_behind := fun_of X G (fa_ok c 41) (c.def_ 22 (d := ⟨gloAd "pair_behind", "pair_behind", "pair_behind", s_pair_behind⟩)) fun _ _ _ _ _ _ us hl => match us, hl with | [_, _, _], _ => rfl
  pairs_apart := fun_of X G (fa_ok c 42) (c.def_ 23 (d := ⟨gloAd "pairs_apart", "pairs_apart", "pairs_apart", s_pairs_apart⟩)) fun _ _ _ _ _ _ us hl => match us, hl with | [_], _ => rfl
  apart := fun_of X G (fa_ok c 43) (c.def_ 24 (d := ⟨gloAd "apart", "apart", "apart", s_apart⟩)) fun _ _ _ _ _ _ us hl => match us, hl with | [_], _ => rfl
  is_pair_of := fun_of X G (fa_ok c 44) (c.def_ 25 (d := ⟨gloAd "is_pair_of", "is_pair_of", "is_pair_of", s_is_pair_of⟩)) fun _ _ _ _ _ _ us hl => match us, hl with | [_, _], _ => rfl
  is_apart := fun_of X G (fa_ok c 45) (c.def_ 26 (d := ⟨gloAd "is_apart", "is_apart", "is_apart", s_is_apart⟩)) fun _ _ _ _ _ _ us hl => match us, hl with | [_, _], _ => rfl
  reset := fun_of X G (fa_ok c 46) (c.def_ 27 (d := ⟨gloAd "reset", "reset", "reset", s_reset⟩)) fun _ _ _ _ _ _ us hl => match us, hl with | [_], _ => rfl
  any_reset := fun_of X G (fa_ok c 47) (c.def_ 28 (d := ⟨gloAd "any_reset", "any_reset", "any_reset", s_any_reset⟩)) fun _ _ _ _ _ _ us hl => match us, hl with | [_], _ => rfl
  is_reset := fun_of X G (fa_ok c 48) (c.def_ 29 (d := ⟨gloAd "is_reset", "is_reset", "is_reset", s_is_reset⟩)) fun _ _ _ _ _ _ us hl => match us, hl with | [_, _], _ => rfl
  law_pot := fun_of X G (fa_ok c 49) (c.def_ 30 (d := ⟨gloAd "_law_pot", "_law_pot", "_law_pot", s_law_pot⟩)) fun _ _ _ _ _ _ us hl => match us, hl with | [_, _], _ => rfl
  law_draw := fun_of X G (fa_ok c 50) (c.def_ 31 (d := ⟨gloAd "_law_draw", "_law_draw", "_law_draw", s_law_draw⟩)) fun _ _ _ _ _ _ us hl => match us, hl with | [_, _], _ => rfl
  law_pick := fun_of X G (fa_ok c 51) (c.def_ 32 (d := ⟨gloAd "_law_pick", "_law_pick", "_law_pick", s_law_pick⟩)) fun _ _ _ _ _ _ us hl => match us, hl with | [_, _], _ => rfl
  law_mixed := fun_of X G (fa_ok c 52) (c.def_ 33 (d := ⟨gloAd "_law_mixed", "_law_mixed", "_law_mixed", s_law_mixed⟩)) fun _ _ _ _ _ _ us hl => match us, hl with | [_, _], _ => rfl
  law_letters := fun_of X G (fa_ok c 53) (c.def_ 34 (d := ⟨gloAd "_law_letters", "_law_letters", "_law_letters", s_law_letters⟩)) fun _ _ _ _ _ _ us hl => match us, hl with | [_], _ => rfl
  law_rows := fun_of X G (fa_ok c 54) (c.def_ 35 (d := ⟨gloAd "_law_rows", "_law_rows", "_law_rows", s_law_rows⟩)) fun _ _ _ _ _ _ us hl => match us, hl with | [_, _, _, _], _ => rfl
  law_model := fun_of X G (fa_ok c 55) (c.def_ 36 (d := ⟨gloAd "_law_model", "_law_model", "_law_model", s_law_model⟩)) fun _ _ _ _ _ _ us hl => match us, hl with | [_, _], _ => rfl
  law_made := fun_of X G (fa_ok c 56) (c.def_ 37 (d := ⟨gloAd "_law_made", "_law_made", "_law_made", s_law_made⟩)) fun _ _ _ _ _ _ us hl => match us, hl with | [_], _ => rfl
  law_goal := fun_of X G (fa_ok c 57) (c.def_ 38 (d := ⟨gloAd "_law_goal", "_law_goal", "_law_goal", s_law_goal⟩)) fun _ _ _ _ _ _ us hl => match us, hl with | [_, _, _], _ => rfl
  law_run := fun_of X G (fa_ok c 58) (c.def_ 39 (d := ⟨gloAd "_law_run", "_law_run", "_law_run", s_law_run⟩)) fun _ _ _ _ _ _ us hl => match us, hl with | [_, _, _], _ => rfl
  law_word := fun_of X G (fa_ok c 59) (c.def_ 40 (d := ⟨gloAd "_law_word", "_law_word", "_law_word", s_law_word⟩)) fun _ _ _ _ _ _ us hl => match us, hl with | [_, _, _], _ => rfl
  law_lot_behind := fun_of X G (fa_ok c 60) (c.def_ 41 (d := ⟨gloAd "_law_lot_behind", "_law_lot_behind", "_law_lot_behind", s_law_lot_behind⟩)) fun _ _ _ _ _ _ us hl => match us, hl with | [_, _, _], _ => rfl
  law_reset := fun_of X G (fa_ok c 61) (c.def_ 42 (d := ⟨gloAd "_law_reset", "_law_reset", "_law_reset", s_law_reset⟩)) fun _ _ _ _ _ _ us hl => match us, hl with | [_], _ => rfl
  law_is_reset := fun_of X G (fa_ok c 62) (c.def_ 43 (d := ⟨gloAd "_law_is_reset", "_law_is_reset", "_law_is_reset", s_law_is_reset⟩)) fun _ _ _ _ _ _ us hl => match us, hl with | [_, _], _ => rfl
  law_values := fun_of X G (fa_ok c 63) (c.def_ 44 (d := ⟨gloAd "_law_values", "_law_values", "_law_values", s_law_values⟩)) fun _ _ _ _ _ _ us hl => match us, hl with | [_, _, _], _ => rfl
  law_values_right := fun_of X G (fa_ok c 64) (c.def_ 45 (d := ⟨gloAd "_law_values_right", "_law_values_right", "_law_values_right", s_law_values_right⟩)) fun _ _ _ _ _ _ us hl => match us, hl with | [_, _, _, _], _ => rfl
  law_one_right := fun_of X G (fa_ok c 65) (c.def_ 46 (d := ⟨gloAd "_law_one_right", "_law_one_right", "_law_one_right", s_law_one_right⟩)) fun _ _ _ _ _ _ us hl => match us, hl with | [_, _], _ => rfl
  law_round := fun_of X G (fa_ok c 66) (c.def_ 47 (d := ⟨gloAd "_law_round", "_law_round", "_law_round", s_law_round⟩)) fun _ _ _ _ _ _ us hl => match us, hl with | [_], _ => rfl
  law_known_right := fun_of X G (fa_ok c 67) (c.def_ 48 (d := ⟨gloAd "_law_known_right", "_law_known_right", "_law_known_right", s_law_known_right⟩)) fun _ _ _ _ _ _ us hl => match us, hl with | [_], _ => rfl
  law_heard := fun_of X G (fa_ok c 68) (c.def_ 49 (d := ⟨gloAd "_law_heard", "_law_heard", "_law_heard", s_law_heard⟩)) fun _ _ _ _ _ _ us hl => match us, hl with | [_], _ => rfl
  law_right := fun_of X G (fa_ok c 69) (c.def_ 50 (d := ⟨gloAd "_law_right", "_law_right", "_law_right", s_law_right⟩)) fun _ _ _ _ _ _ us hl => match us, hl with | [_], _ => rfl
  law := fun_of X G (fa_ok c 70) (c.def_ 51 (d := ⟨gloAd "law", "law", "law", s_law⟩)) fun _ _ _ _ _ _ us hl => match us, hl with | [_], _ => rfl
theorem mac_of (X : K.In h) (G : h.Ns mainGlobals mg) (c : SaysC topChk fns K) : Mac K mg (He.ga K "Machine") where
  name := He.glo_ok X G (fa_ok c 74)
  isc := iscB_ok (fx_ok c 1)
  a1 := He.noat_ok (fa_ok c 76)
  a2 := He.noat_ok (fa_ok c 77)
  a3 := He.noat_ok (fa_ok c 78)
  most := cintB_ok (fx_ok c 2)
  init := by
    obtain ⟨fd, F⟩ := c.def_ 52 (d := ⟨metAd "Machine" "__init__", "__init__", "Machine.__init__", s_Cinit⟩)
    exact ⟨_, fd, F, He.mkr_ok (fa_ok c 75), F.binds (ps := p_Cinit) fun _ _ _ _ _ _ us hl => match us, hl with | [_, _, _, _], _ => rfl⟩
  width := by
    obtain ⟨fd, F⟩ := c.def_ 53 (d := ⟨propAd "Machine" "width", "width", "Machine.width", s_Cwidth⟩)
    exact ⟨_, _, fd, F, propB_ok (fx_ok c 0), F.binds (ps := p_Cwidth) fun _ _ _ _ _ _ us hl => match us, hl with | [_], _ => rfl⟩
  letters := by
    obtain ⟨fd, F⟩ := c.def_ 54 (d := ⟨metAd "Machine" "letters", "letters", "Machine.letters", s_Cletters⟩)
    exact ⟨_, fd, F, He.meth_ok (fa_ok c 79), F.binds (ps := p_Cletters) fun _ _ _ _ _ _ us hl => match us, hl with | [_], _ => rfl⟩
  rows := by
    obtain ⟨fd, F⟩ := c.def_ 55 (d := ⟨metAd "Machine" "rows", "rows", "Machine.rows", s_Crows⟩)
    exact ⟨_, fd, F, He.meth_ok (fa_ok c 80), F.binds (ps := p_Crows) fun _ _ _ _ _ _ us hl => match us, hl with | [_], _ => rfl⟩
  len := by
    obtain ⟨fd, F⟩ := c.def_ 56 (d := ⟨metAd "Machine" "__len__", "__len__", "Machine.__len__", s_Clen⟩)
    exact ⟨_, fd, F, He.meth_ok (fa_ok c 81), F.binds (ps := p_Clen) fun _ _ _ _ _ _ us hl => match us, hl with | [_], _ => rfl⟩
  eq := by
    obtain ⟨fd, F⟩ := c.def_ 57 (d := ⟨metAd "Machine" "__eq__", "__eq__", "Machine.__eq__", s_Ceq⟩)
    exact ⟨_, fd, F, He.meth_ok (fa_ok c 82), F.binds (ps := p_Ceq) fun _ _ _ _ _ _ us hl => match us, hl with | [_, _], _ => rfl⟩
  repr := by
    obtain ⟨fd, F⟩ := c.def_ 58 (d := ⟨metAd "Machine" "__repr__", "__repr__", "Machine.__repr__", s_Crepr⟩)
    exact ⟨_, fd, F, He.meth_ok (fa_ok c 83), F.binds (ps := p_Crepr) fun _ _ _ _ _ _ us hl => match us, hl with | [_], _ => rfl⟩
theorem toom_of (X : K.In h) (G : h.Ns mainGlobals mg) (c : SaysC topChk fns K) : TooM K mg (He.ga K "TooMany") where
  k := excKB_ok (fx_ok c 3)
  mgc := He.glo_ok X G (fa_ok c 84)
  ini := by
    obtain ⟨fd, F⟩ := c.def_ 59 (d := ⟨metAd "TooMany" "__init__", "__init__", "TooMany.__init__", s_ETooMany⟩)
    obtain ⟨h1, h2⟩ := excIB_ok (x := "TooMany") (fx_ok c 4)
    exact ⟨_, fd, F, h1, h2⟩
  bas := ⟨_, He.glo_ok X G (fa_ok c 85), basIB_ok (fx_ok c 5)⟩
  f1 := He.eqO_ok (fx_ok c 6)
  f2 := He.eqO_ok (fx_ok c 7)
  xf := xfB_ok (fx_ok c 8)
  exm := of_decide_eq_true (fx_ok c 9)
end
section
variable {P : Program} {w : World} {K : PySem.W.Frag} {mg : Str → Option Value} {base : Heap} {C C0 : Addr}
theorem chain (M : Mod K mg) (MC : Mac K mg C) (TM : TooM K mg C0) (MMOST_WIDE : ∃ t, mg "MOST_WIDE" = some (.int 4 t)) (MMOST_STATES : ∃ t, mg "MOST_STATES" = some (.int 16 t)) (MMOST_LOTS : ∃ t, mg "MOST_LOTS" = some (.int 2000 t)) : C_law P w K mg base := by
  have x_is_integer : C_is_integer P w K mg base := g_is_integer M
  have x_is_count : C_is_count P w K mg base := g_is_count M x_is_integer
  have x_is_bit : C_is_bit P w K mg base := g_is_bit M x_is_integer
  have x_is_list : C_is_list P w K mg base := g_is_list M
  have x_is_letter : C_is_letter P w K mg base := g_is_letter M x_is_bit
  have x_is_word : C_is_word P w K mg base := g_is_word M x_is_list x_is_letter
  have x_all_letters : C_all_letters P w K mg base := g_all_letters M
  have x_want_width : C_want_width P w K mg base := g_want_width M MMOST_WIDE x_is_count
  have x_is_goal : C_is_goal P w K mg base := g_is_goal M x_is_count x_is_letter
  have x_are_goals : C_are_goals P w K mg base := g_are_goals M x_is_list x_is_goal
  have x_want_rows : C_want_rows P w K mg base := g_want_rows M x_is_list x_are_goals x_all_letters
  have x_is_state_of : C_is_state_of P w K mg base C := g_is_state_of M MC x_is_count
  have x_is_lot : C_is_lot P w K mg base C := g_is_lot M MC x_is_list x_is_state_of
  have x_want_few_states : C_want_few_states P w K mg base C := g_want_few_states M MC MMOST_STATES
  have x_moves_of : C_moves_of P w K mg base C := g_moves_of M MC x_all_letters
  have x_next_lot : C_next_lot P w K mg base := g_next_lot M
  have x_led_by : C_led_by P w K mg base := g_led_by M x_next_lot
  have x_words_to_lots : C_words_to_lots P w K mg base := g_words_to_lots M x_next_lot
  have x_word_together : C_word_together P w K mg base := g_word_together M
  have x_meeting_by : C_meeting_by P w K mg base C := g_meeting_by M MC x_moves_of x_words_to_lots x_word_together
  have x_pair_behind : C_pair_behind P w K mg base := g_pair_behind M
  have x_is_pair_of : C_is_pair_of P w K mg base C := g_is_pair_of M x_is_lot
  have x_pairs_apart : C_pairs_apart P w K mg base C := g_pairs_apart M MC x_moves_of x_pair_behind
  have x_apart : C_apart P w K mg base C := g_apart M x_want_few_states x_pairs_apart
  have x_is_apart : C_is_apart P w K mg base C := g_is_apart M x_want_few_states x_is_list x_is_pair_of x_moves_of x_pair_behind
  have x_law_draw : C_law_draw P w K mg base := g_law_draw M
  have x_law_pick : C_law_pick P w K mg base := g_law_pick M x_law_draw
  have x_law_mixed : C_law_mixed P w K mg base := g_law_mixed M x_law_draw
  have x_law_letters : C_law_letters P w K mg base := g_law_letters M
  have x_law_rows : C_law_rows P w K mg base := g_law_rows M x_law_draw x_law_mixed x_law_letters
  have x_law_model : C_law_model P w K mg base := g_law_model M x_law_draw x_law_pick x_law_letters x_law_rows
  have x_law_made : C_law_made P w K mg base C := g_law_made M MC x_want_width x_want_rows
  have x_law_goal : C_law_goal P w K mg base := g_law_goal M
  have x_law_run : C_law_run P w K mg base := g_law_run M
  have x_law_word : C_law_word P w K mg base := g_law_word M x_law_draw x_law_pick
  have x_words_to_lotsG : C_words_to_lotsG P w K mg base := g_words_to_lotsG M x_next_lot
  have x_is_bitV : C_is_bitV P w K mg base := g_is_bitV M x_is_integer
  have x_is_letterV : C_is_letterV P w K mg base := g_is_letterV M x_is_bitV
  have x_is_wordV : C_is_wordV P w K mg base := g_is_wordV M x_is_list x_is_letterV
  have x_all_states : C_all_states P w K mg base C := g_all_states M MC
  have x_reset : C_reset P w K mg base C := g_reset M MMOST_LOTS x_want_few_states x_moves_of x_all_states x_words_to_lotsG x_word_together
  have y_reset : E_reset P w K mg base C C0 := e_reset M TM MMOST_LOTS x_want_few_states x_moves_of x_all_states x_words_to_lotsG
  have x_any_reset : C_any_reset P w K mg base C := g_any_reset M x_want_few_states x_moves_of x_all_states x_meeting_by x_led_by
  have x_is_reset : C_is_reset P w K mg base C := g_is_reset M MC x_want_few_states x_is_wordV x_moves_of x_all_states x_led_by
  have x_law_lot_behind : C_law_lot_behind P w K mg base := g_law_lot_behind M x_law_run
  have x_law_is_reset : C_law_is_reset P w K mg base := g_law_is_reset M x_law_lot_behind
  have x_law_reset : C_law_reset P w K mg base := g_law_reset M x_law_goal
  have x_law_values : C_law_values P w K mg base := g_law_values M x_law_word
  have x_law_values_right : C_law_values_right P w K mg base C := g_law_values_right M x_law_values x_law_is_reset x_is_reset
  have x_law_one_right : C_law_one_right P w K mg base C := g_law_one_right M MC x_law_made x_law_reset x_reset x_any_reset x_apart x_is_apart x_law_values_right x_law_is_reset
  have x_law_round : C_law_round P w K mg base := g_law_round M x_law_letters
  have x_law_heard : C_law_heard P w K mg base C := g_law_heard M TM y_reset
  have x_law_known_right : C_law_known_right P w K mg base := g_law_known_right M x_law_draw x_law_round x_law_made x_reset x_law_is_reset x_is_reset x_any_reset x_law_letters x_law_heard x_apart
  have x_law_pot : C_law_pot P w K mg base := g_law_pot M
  have x_law_right : C_law_right P w K mg base := g_law_right M x_law_model x_law_one_right x_law_known_right
  have x_law : C_law P w K mg base := g_law M x_law_pot x_law_right
  exact x_law
end
theorem fun_same {K : PySem.W.Frag} {x : Str} {st : Stmt} {f : Addr} {fd fd' : FuncData} (a : Fun K x x st f fd) (b : Fun K x x st f fd') : fd = fd' := by
  obtain ⟨oc, od, kV, doc, pm, an, cdv, ct, osl, rfl, lk, _⟩ := a.ex
  obtain ⟨oc', od', kV', doc', pm', an', cdv', ct', osl', rfl, lk', _⟩ := b.ex
  rw [lk] at lk'
  injection lk' with e
  injection e with _ _ e
  injection e
theorem ends : PySem.W.WalkO qv loose (PySem.W.XL qv []) hk.says HR.toRowW (HandSHeadRun.topDef HR.prog 67) [] (fun f vs => PySem.call f vs) := by
  refine walk_ofG (l := PySem.Challenge.rw_wirewords_k82_whole_resets_or_apart) (n := 63) (k := 12) (x := "_law_script") rfl (by decide) (by kernel_rfl) ⟨rfl, by decide, by decide⟩ ?_
  intro w mg fa h Y G hmg0
  obtain ⟨K, KX, c⟩ := Y
  have hmg : mg ("law" : Str) = some (.ref fa) := by
    have e : (HandSHeadRun.topDef HR.prog 67).name = ("law" : Str) := by kernel_rfl
    rw [← e]
    exact hmg0
  have M := mod_of KX G c
  have MC := mac_of KX G c
  have TM := toom_of KX G c
  have MMOST_WIDE := He.int_ok KX G (fa_ok c 71)
  have MMOST_STATES := He.int_ok KX G (fa_ok c 72)
  have MMOST_LOTS := He.int_ok KX G (fa_ok c 73)
  obtain ⟨f, fd, F, hf, B⟩ := M.law
  rw [hmg] at hf
  cases hf
  refine ⟨K, fd, SpP K R_law, KX, fun s u => ?_, fun H a ns hl hS => spP_law hS ⟨ns, rfl, hl, rfl⟩, fun base hK hN => ?_⟩
  · obtain ⟨oc, od, kV, doc, pm, an, cdv, ct, osl, rfl, _⟩ := F.ex
    exact .of_eq rfl
  · obtain ⟨f', fd', C⟩ := chain (P := (PySem.Challenge.rw_wirewords_k82_whole_resets_or_apart).prog) (w := w) (base := base) M MC TM MMOST_WIDE MMOST_STATES MMOST_LOTS
    have e := C.mgf
    rw [hmg] at e
    cases e
    have e := fun_same F C.fn
    subst e
    exact C.ok
end K82
open PySem PySem.W PySem.Calls PyProof.Rows in
set_option maxRecDepth 100000 in
set_option maxHeartbeats 0 in
theorem PySem.Challenge.cw_wirewords_k82_whole_resets_or_apart_holds : PySem.Challenge.rw_wirewords_k82_whole_resets_or_apart.Holds := by
  w_on; o_law
  refine HandSHeadRun.head_any (r := K82.HR) (q := K82.qv) (H := K82.hk) (ob := K82.ob) (M := 20000) (loose := K82.loose) (d := HandSHeadRun.topDef K82.HR.prog 67) (kwd := []) K82.ob_eq
    (by kernel_rfl) (fun s => by kernel_rfl) K82.run (by kernel_rfl) (by kernel_rfl) (by kernel_rfl) (by rfl) (by first | assumption | decide +kernel) (by decide +kernel) ⟨rfl, rfl, rfl, rfl, rfl, by decide +kernel⟩ ?hw ?hc
  case hw => w_witness2
  case hc => exact K82.ends

