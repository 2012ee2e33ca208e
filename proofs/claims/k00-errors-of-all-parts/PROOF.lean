import PyProof.Rows.All
import Wide.All
import OpenK.AllK
import Wide.FinOn
import HandS.ForMost
import HandS.ForExc
import HandS.TupAny
import HandS.TupMul
import HandS.Star
import HandS.ExcOwn
import HandS.Deep
import HandS.IsInst
import HandS.Walk
import KE.KTupSum
import HandS.TupLen
import HandS.CallSlots
import HandS.Style
import KE.KExcSuper
import HandS.ExcValue
import KE.KExcIs
import HandS.ExcField
import HandS.Lambda
import PyProof.ReprRoads
import PyProof.Rows.ReprR
import HandS.RaiseMore
import HandS.Rev
import HandS.EndTab
import HandS.EndOwn
import HandS.ExcIs
import KE.KNestM
import PyProof.EqAt
import PyProof.EqKinds
import PyProof.TupleCall
import Open.SpecLaws
import KE.OsGo
import PySem.Challenge.RW_boxparts_k00_errors_of_all_parts
set_option Elab.async false
set_option linter.all false
set_option maxRecDepth 100000
set_option maxHeartbeats 4000000
/-! Bx1: data, what stands for them in the heap, what is owned -/
namespace Bx
open PySem L2
/-- data -/
inductive D where
  | non | bl (b : Bool) | int (i : Int) | str (s : Str)
  | tup (l : List D) | lst (l : List D) | dct (l : List (D × D))
  | scr (ns : List Int) | draw | fn (n : Nat) | cls (n : Nat) | exc (c : Nat) (p : D) | clo (j : Nat)
  deriving Inhabited
/-- what a name holds: data that no one changes, or a list or dict that this name alone reaches -/
inductive M where
  | fz (d : D) | ol (l : List M) | od (l : List (D × M))
  deriving Inhabited
mutual
def M.toD : M → D
  | .fz d => d
  | .ol l => .lst (toDs l)
  | .od l => .dct (toKV l)
def toDs : List M → List D
  | [] => []
  | m :: ms => m.toD :: toDs ms
def toKV : List (D × M) → List (D × D)
  | [] => []
  | (k, m) :: ms => (k, m.toD) :: toKV ms
end
theorem toDs_map : ∀ l : List M, toDs l = l.map M.toD
  | [] => rfl
  | _ :: ms => by rw [toDs, toDs_map ms]; rfl
theorem toDs_fz : ∀ l : List D, toDs (l.map M.fz) = l
  | [] => rfl
  | d :: ds => by rw [List.map_cons, toDs, toDs_fz ds]; rfl
/-- an error object that was caught: of the class cls, its dict d -/
def ExT (cls : Value) (d : Option Addr) (a : Addr) : HO := .ext fun h => ∃ (oe : Obj) (vs : Array Value), h.get? a = some oe ∧ Zc cls d oe ∧ oe.data = .fields vs
/-- the world: the written part, the objects that are not ours (draws, tables), what holds of them; where defs and classes stand -/
structure Wd where
  K : PySem.W.Frag
  Gh : Addr → Prop
  WI : Hp → Hp → Prop
  stab : ∀ F H F' H', WI F H → Same F F' → (∀ a, Gh a → H' a = H a) → WI F' H'
  there : ∀ F H a, WI F H → Gh a → H a ≠ none
  gd : Addr
  scA : Addr
  fnA : Nat → Addr
  clsA : Nat → Addr
  fld : Nat → PySem.Str
  hf : Nat → Bool
def keyD : Key → D
  | .inl i => .int i
  | .inr x => .str x
def keysD (k : List Key) : D := .tup (k.map keyD)
mutual
inductive Rep (W : Wd) (F : Hp) : V → D → Prop
  | non : Rep W F .non .non
  | bl (b : Bool) : Rep W F (.bl b) (.bl b)
  | int (i : Int) : Rep W F (.int i) (.int i)
  | str (x : Str) : Rep W F (.str x) (.str x)
  | lst {a : Addr} {xs : List V} {ds : List D} : F a = some (.lst xs) → RepL W F xs ds → Rep W F (.ref a) (.lst ds)
  | tup {a : Addr} {xs : List V} {ds : List D} : SqT W.K F a xs → RepL W F xs ds → Rep W F (.ref a) (.tup ds)
  | dctK {a : Addr} {kvs : List (Key × V)} {ds : List (D × D)} : F a = some (.dK kvs) → RepK W F kvs ds → Rep W F (.ref a) (.dct ds)
  | dctT {a : Addr} {kvs : List (List Key × V)} {ds : List (D × D)} : F a = some (.dT kvs) → RepT W F kvs ds → Rep W F (.ref a) (.dct ds)
  | scr {ns : List Int} : SqL W.K F W.scA (ns.map V.int) → Rep W F (.ref W.scA) (.scr ns)
  | draw : Rep W F (.ref W.gd) .draw
  | fn (n : Nat) : Rep W F (.ref (W.fnA n)) (.fn n)
  | cls (n : Nat) : Rep W F (.ref (W.clsA n)) (.cls n)
  | exc0 {a : Addr} {c : Nat} : W.hf c = false → F a = some (ExT (.ref (W.clsA c)) none a) → Rep W F (.ref a) (.exc c .non)
  | exc1 {a dd : Addr} {c : Nat} {v : V} {d : D} : W.hf c = true → F a = some (ExT (.ref (W.clsA c)) (some dd) a) → F dd = some (.xd [(W.fld c, v)]) → Rep W F v d → Rep W F (.ref a) (.exc c d)
inductive RepL (W : Wd) (F : Hp) : List V → List D → Prop
  | nil : RepL W F [] []
  | cons {v : V} {vs : List V} {d : D} {ds : List D} : Rep W F v d → RepL W F vs ds → RepL W F (v :: vs) (d :: ds)
inductive RepK (W : Wd) (F : Hp) : List (Key × V) → List (D × D) → Prop
  | nil : RepK W F [] []
  | cons {k : Key} {v : V} {vs : List (Key × V)} {d : D} {ds : List (D × D)} : Rep W F v d → RepK W F vs ds → RepK W F ((k, v) :: vs) ((keyD k, d) :: ds)
inductive RepT (W : Wd) (F : Hp) : List (List Key × V) → List (D × D) → Prop
  | nil : RepT W F [] []
  | cons {k : List Key} {v : V} {vs : List (List Key × V)} {d : D} {ds : List (D × D)} : Rep W F v d → RepT W F vs ds → RepT W F ((k, v) :: vs) ((keysD k, d) :: ds)
end
section
variable {W : Wd} {F F' H H' : Hp} {v : V} {d : D} {vs : List V} {ds : List D}
theorem rd_mono {a : Addr} {u : HO} (e : Same F F') (h : Rd F a u) : Rd F' a u := by
  rcases h with h | ⟨o, h⟩
  · exact .inl (e _ _ h)
  · exact .inr ⟨o, e _ _ h⟩
theorem sqL_mono {a : Addr} {xs : List V} {K : PySem.W.Frag} (e : Same F F') (h : SqL K F a xs) : SqL K F' a xs := by
  rcases h with h | h
  · exact .inl (rd_mono e h)
  · exact .inr h
theorem sqT_mono {a : Addr} {xs : List V} {K : PySem.W.Frag} (e : Same F F') (h : SqT K F a xs) : SqT K F' a xs := by
  rcases h with h | h
  · exact .inl (rd_mono e h)
  · exact .inr h
theorem Rep.mono (e : Same F F') (h : Rep W F v d) : Rep W F' v d :=
  Rep.rec (motive_1 := fun v d _ => Rep W F' v d) (motive_2 := fun v d _ => RepL W F' v d) (motive_3 := fun v d _ => RepK W F' v d) (motive_4 := fun v d _ => RepT W F' v d)
    .non .bl .int .str (fun h _ r => .lst (e _ _ h) r) (fun h _ r => .tup (sqT_mono e h) r) (fun h _ r => .dctK (e _ _ h) r) (fun h _ r => .dctT (e _ _ h) r)
    (fun h => .scr (sqL_mono e h)) .draw .fn .cls (fun hh h => .exc0 hh (e _ _ h)) (fun hh h h2 _ r => .exc1 hh (e _ _ h) (e _ _ h2) r)
    .nil (fun _ _ a b => .cons a b) .nil (fun _ _ a b => .cons a b) .nil (fun _ _ a b => .cons a b) h
theorem RepL.mono (e : Same F F') : ∀ {vs : List V} {ds : List D}, RepL W F vs ds → RepL W F' vs ds
  | _, _, .nil => .nil
  | _, _, .cons a b => .cons (a.mono e) (b.mono e)
theorem RepK.mono (e : Same F F') : ∀ {vs : List (Key × V)} {ds : List (D × D)}, RepK W F vs ds → RepK W F' vs ds
  | _, _, .nil => .nil
  | _, _, .cons a b => .cons (a.mono e) (b.mono e)
theorem RepT.mono (e : Same F F') : ∀ {vs : List (List Key × V)} {ds : List (D × D)}, RepT W F vs ds → RepT W F' vs ds
  | _, _, .nil => .nil
  | _, _, .cons a b => .cons (a.mono e) (b.mono e)
theorem RepL.length : ∀ {vs : List V} {ds : List D}, RepL W F vs ds → vs.length = ds.length
  | _, _, .nil => rfl
  | _, _, .cons _ b => by rw [List.length_cons, List.length_cons, b.length]
theorem RepK.length : ∀ {vs : List (Key × V)} {ds : List (D × D)}, RepK W F vs ds → vs.length = ds.length
  | _, _, .nil => rfl
  | _, _, .cons _ b => by rw [List.length_cons, List.length_cons, b.length]
theorem RepT.length : ∀ {vs : List (List Key × V)} {ds : List (D × D)}, RepT W F vs ds → vs.length = ds.length
  | _, _, .nil => rfl
  | _, _, .cons _ b => by rw [List.length_cons, List.length_cons, b.length]
theorem RepL.get : ∀ {vs : List V} {ds : List D} {i : Nat} {v : V}, RepL W F vs ds → vs[i]? = some v → ∃ d, ds[i]? = some d ∧ Rep W F v d
  | _, _, _, _, .nil, e => by simp at e
  | _, _, 0, _, .cons a _, e => by simp at e; subst e; exact ⟨_, rfl, a⟩
  | _, _, i + 1, v, .cons _ b, e => by
    obtain ⟨d, h1, h2⟩ := RepL.get (i := i) (v := v) b (by simpa using e)
    exact ⟨d, by simpa using h1, h2⟩
theorem RepL.get' : ∀ {vs : List V} {ds : List D} {i : Nat} {d : D}, RepL W F vs ds → ds[i]? = some d → ∃ v, vs[i]? = some v ∧ Rep W F v d
  | _, _, _, _, .nil, e => by simp at e
  | _, _, 0, _, .cons a _, e => by simp at e; subst e; exact ⟨_, rfl, a⟩
  | _, _, i + 1, d, .cons _ b, e => by
    obtain ⟨v, h1, h2⟩ := RepL.get' (i := i) (d := d) b (by simpa using e)
    exact ⟨v, by simpa using h1, h2⟩
theorem RepL.append : ∀ {vs ws : List V} {ds es : List D}, RepL W F vs ds → RepL W F ws es → RepL W F (vs ++ ws) (ds ++ es)
  | _, _, _, _, .nil, s => s
  | _, _, _, _, .cons a b, s => .cons a (b.append s)
theorem RepL.take : ∀ {vs : List V} {ds : List D} (n : Nat), RepL W F vs ds → RepL W F (vs.take n) (ds.take n)
  | _, _, 0, _ => .nil
  | _, _, _ + 1, .nil => .nil
  | _, _, n + 1, .cons a b => .cons a (b.take n)
theorem RepL.drop : ∀ {vs : List V} {ds : List D} (n : Nat), RepL W F vs ds → RepL W F (vs.drop n) (ds.drop n)
  | _, _, 0, r => r
  | _, _, _ + 1, .nil => .nil
  | _, _, n + 1, .cons _ b => b.drop n
theorem RepL.reverse : ∀ {vs : List V} {ds : List D}, RepL W F vs ds → RepL W F vs.reverse ds.reverse
  | _, _, .nil => .nil
  | _, _, .cons a b => by rw [List.reverse_cons, List.reverse_cons]; exact b.reverse.append (.cons a .nil)
theorem RepL.ints : ∀ (ns : List Int), RepL W F (ns.map V.int) (ns.map D.int)
  | [] => .nil
  | _ :: ns => .cons (.int _) (RepL.ints ns)
theorem RepL.of_ints : ∀ {vs : List V} {ns : List Int}, RepL W F vs (ns.map D.int) → vs = ns.map V.int
  | _, [], h => by cases h; rfl
  | _, n :: ns, h => by
    cases h with
    | cons a b => cases a; rw [RepL.of_ints b]; rfl
/-! ### owned -/
mutual
inductive RepM (W : Wd) (F H : Hp) : List Addr → V → M → Prop
  | fz {v : V} {d : D} : Rep W F v d → RepM W F H [] v (.fz d)
  | ol {a : Addr} {As : List Addr} {xs : List V} {ms : List M} : H a = some (.lst xs) → F a = none → ¬ W.Gh a → RepMs W F H As xs ms → RepM W F H (a :: As) (.ref a) (.ol ms)
  | odK {a : Addr} {As : List Addr} {kvs : List (Key × V)} {ms : List (D × M)} : H a = some (.dK kvs) → F a = none → ¬ W.Gh a → RepMK W F H As kvs ms → RepM W F H (a :: As) (.ref a) (.od ms)
  | odT {a : Addr} {As : List Addr} {kvs : List (List Key × V)} {ms : List (D × M)} : H a = some (.dT kvs) → F a = none → ¬ W.Gh a → RepMT W F H As kvs ms → RepM W F H (a :: As) (.ref a) (.od ms)
inductive RepMs (W : Wd) (F H : Hp) : List Addr → List V → List M → Prop
  | nil : RepMs W F H [] [] []
  | cons {A As : List Addr} {v : V} {vs : List V} {m : M} {ms : List M} : RepM W F H A v m → RepMs W F H As vs ms → RepMs W F H (A ++ As) (v :: vs) (m :: ms)
inductive RepMK (W : Wd) (F H : Hp) : List Addr → List (Key × V) → List (D × M) → Prop
  | nil : RepMK W F H [] [] []
  | cons {A As : List Addr} {k : Key} {v : V} {vs : List (Key × V)} {m : M} {ms : List (D × M)} : RepM W F H A v m → RepMK W F H As vs ms → RepMK W F H (A ++ As) ((k, v) :: vs) ((keyD k, m) :: ms)
inductive RepMT (W : Wd) (F H : Hp) : List Addr → List (List Key × V) → List (D × M) → Prop
  | nil : RepMT W F H [] [] []
  | cons {A As : List Addr} {k : List Key} {v : V} {vs : List (List Key × V)} {m : M} {ms : List (D × M)} : RepM W F H A v m → RepMT W F H As vs ms → RepMT W F H (A ++ As) ((k, v) :: vs) ((keysD k, m) :: ms)
end
/-- what is owned is there, is not known as data, is not the world's -/
def Owns (W : Wd) (F H : Hp) (A : List Addr) : Prop := ∀ a ∈ A, (∃ o, H a = some o) ∧ F a = none ∧ ¬ W.Gh a
theorem Owns.nil : Owns W F H [] := fun _ h => absurd h (by simp)
theorem Owns.cons {a : Addr} {A : List Addr} {o : HO} (h1 : H a = some o) (h2 : F a = none) (h3 : ¬ W.Gh a) (h : Owns W F H A) : Owns W F H (a :: A) := fun b hb => by
  rcases List.mem_cons.mp hb with e | hb
  · subst e; exact ⟨⟨o, h1⟩, h2, h3⟩
  · exact h b hb
theorem Owns.append {A B : List Addr} (h1 : Owns W F H A) (h2 : Owns W F H B) : Owns W F H (A ++ B) := fun b hb =>
  (List.mem_append.mp hb).elim (h1 b) (h2 b)
theorem Owns.left {A B : List Addr} (h : Owns W F H (A ++ B)) : Owns W F H A := fun b hb => h b (List.mem_append_left _ hb)
theorem Owns.right {A B : List Addr} (h : Owns W F H (A ++ B)) : Owns W F H B := fun b hb => h b (List.mem_append_right _ hb)
theorem RepM.owns {A : List Addr} {v : V} {m : M} (h : RepM W F H A v m) : Owns W F H A :=
  RepM.rec (motive_1 := fun A _ _ _ => Owns W F H A) (motive_2 := fun A _ _ _ => Owns W F H A) (motive_3 := fun A _ _ _ => Owns W F H A) (motive_4 := fun A _ _ _ => Owns W F H A)
    (fun _ => .nil) (fun h1 h2 h3 _ r => .cons h1 h2 h3 r) (fun h1 h2 h3 _ r => .cons h1 h2 h3 r) (fun h1 h2 h3 _ r => .cons h1 h2 h3 r)
    .nil (fun _ _ a b => a.append b) .nil (fun _ _ a b => a.append b) .nil (fun _ _ a b => a.append b) h
theorem RepMs.owns : ∀ {A : List Addr} {vs : List V} {ms : List M}, RepMs W F H A vs ms → Owns W F H A
  | _, _, _, .nil => .nil
  | _, _, _, .cons a b => a.owns.append b.owns
theorem RepMK.owns : ∀ {A : List Addr} {vs : List (Key × V)} {ms : List (D × M)}, RepMK W F H A vs ms → Owns W F H A
  | _, _, _, .nil => .nil
  | _, _, _, .cons a b => a.owns.append b.owns
theorem RepMT.owns : ∀ {A : List Addr} {vs : List (List Key × V)} {ms : List (D × M)}, RepMT W F H A vs ms → Owns W F H A
  | _, _, _, .nil => .nil
  | _, _, _, .cons a b => a.owns.append b.owns
/-- the owned objects stay as they are, and stay owned -/
def Keeps (F H F' H' : Hp) (A : List Addr) : Prop := Same F F' ∧ (∀ a ∈ A, ∀ o, H a = some o → H' a = some o) ∧ ∀ a ∈ A, F a = none → F' a = none
theorem Keeps.sub {A B : List Addr} (k : Keeps F H F' H' B) (h : ∀ a ∈ A, a ∈ B) : Keeps F H F' H' A := ⟨k.1, fun a ha => k.2.1 a (h a ha), fun a ha => k.2.2 a (h a ha)⟩
theorem Keeps.tail {a : Addr} {A : List Addr} (k : Keeps F H F' H' (a :: A)) : Keeps F H F' H' A := k.sub fun _ h => List.mem_cons_of_mem _ h
theorem Keeps.left {A B : List Addr} (k : Keeps F H F' H' (A ++ B)) : Keeps F H F' H' A := k.sub fun _ h => List.mem_append_left _ h
theorem Keeps.right {A B : List Addr} (k : Keeps F H F' H' (A ++ B)) : Keeps F H F' H' B := k.sub fun _ h => List.mem_append_right _ h
theorem RepM.keep {A : List Addr} {v : V} {m : M} (h : RepM W F H A v m) : Keeps F H F' H' A → RepM W F' H' A v m :=
  RepM.rec (motive_1 := fun A v m _ => Keeps F H F' H' A → RepM W F' H' A v m) (motive_2 := fun A v m _ => Keeps F H F' H' A → RepMs W F' H' A v m) (motive_3 := fun A v m _ => Keeps F H F' H' A → RepMK W F' H' A v m) (motive_4 := fun A v m _ => Keeps F H F' H' A → RepMT W F' H' A v m)
    (fun h k => .fz (h.mono k.1)) (fun {a As xs ms} h1 h2 h3 _ r k => .ol (k.2.1 a (by simp) _ h1) (k.2.2 a (by simp) h2) h3 (r k.tail))
    (fun {a As xs ms} h1 h2 h3 _ r k => .odK (k.2.1 a (by simp) _ h1) (k.2.2 a (by simp) h2) h3 (r k.tail)) (fun {a As xs ms} h1 h2 h3 _ r k => .odT (k.2.1 a (by simp) _ h1) (k.2.2 a (by simp) h2) h3 (r k.tail))
    (fun _ => .nil) (fun _ _ a b k => .cons (a k.left) (b k.right)) (fun _ => .nil) (fun _ _ a b k => .cons (a k.left) (b k.right)) (fun _ => .nil) (fun _ _ a b k => .cons (a k.left) (b k.right)) h
theorem RepMs.keep : ∀ {A : List Addr} {vs : List V} {ms : List M}, RepMs W F H A vs ms → Keeps F H F' H' A → RepMs W F' H' A vs ms
  | _, _, _, .nil, _ => .nil
  | _, _, _, .cons a b, k => .cons (a.keep k.left) (b.keep k.right)
theorem RepMK.keep : ∀ {A : List Addr} {vs : List (Key × V)} {ms : List (D × M)}, RepMK W F H A vs ms → Keeps F H F' H' A → RepMK W F' H' A vs ms
  | _, _, _, .nil, _ => .nil
  | _, _, _, .cons a b, k => .cons (a.keep k.left) (b.keep k.right)
theorem RepMT.keep : ∀ {A : List Addr} {vs : List (List Key × V)} {ms : List (D × M)}, RepMT W F H A vs ms → Keeps F H F' H' A → RepMT W F' H' A vs ms
  | _, _, _, .nil, _ => .nil
  | _, _, _, .cons a b, k => .cons (a.keep k.left) (b.keep k.right)
/-! ### what is owned becomes data -/
open Classical in
noncomputable def frz (F H : Hp) (A : List Addr) : Hp := fun a => if a ∈ A then H a else F a
theorem frz_mem {A : List Addr} {a : Addr} (h : a ∈ A) : frz F H A a = H a := if_pos h
theorem frz_out {A : List Addr} {a : Addr} (h : a ∉ A) : frz F H A a = F a := if_neg h
theorem frz_same {A : List Addr} (o : Owns W F H A) : Same F (frz F H A) := fun a x e => by
  by_cases h : a ∈ A
  · rw [(o a h).2.1] at e; cases e
  · rw [frz_out h]; exact e
theorem frz_sub {A : List Addr} (s : Same F H) : Same (frz F H A) H := fun a x e => by
  by_cases h : a ∈ A
  · rw [frz_mem h] at e; exact e
  · rw [frz_out h] at e; exact s _ _ e
theorem frz_mono {A B : List Addr} (o : Owns W F H B) (h : ∀ a ∈ A, a ∈ B) : Same (frz F H A) (frz F H B) := fun a x e => by
  by_cases hA : a ∈ A
  · rw [frz_mem hA] at e; rw [frz_mem (h a hA)]; exact e
  · rw [frz_out hA] at e; exact frz_same o _ _ e
mutual
theorem RepM.frz' : ∀ (m : M) {A : List Addr} {v : V}, RepM W F H A v m → Rep W (frz F H A) v m.toD
  | .fz d, _, _, h => by
    cases h with
    | fz h => exact h.mono fun a x e => by rw [frz_out (by simp)]; exact e
  | .ol ms, _, _, h => by
    have o := h.owns
    cases h with
    | ol h1 h2 h3 h4 =>
      exact .lst (by rw [frz_mem (by simp)]; exact h1) ((RepMs.frz' ms h4).mono (frz_mono o fun a h => List.mem_cons_of_mem _ h))
  | .od ms, _, _, h => by
    have o := h.owns
    cases h with
    | odK h1 h2 h3 h4 =>
      exact .dctK (by rw [frz_mem (by simp)]; exact h1) ((RepMK.frz' ms h4).mono (frz_mono o fun a h => List.mem_cons_of_mem _ h))
    | odT h1 h2 h3 h4 =>
      exact .dctT (by rw [frz_mem (by simp)]; exact h1) ((RepMT.frz' ms h4).mono (frz_mono o fun a h => List.mem_cons_of_mem _ h))
theorem RepMs.frz' : ∀ (ms : List M) {A : List Addr} {vs : List V}, RepMs W F H A vs ms → RepL W (frz F H A) vs (toDs ms)
  | [], _, _, h => by cases h; exact .nil
  | m :: ms, _, _, h => by
    have o := h.owns
    cases h with
    | cons a b =>
      exact .cons ((RepM.frz' m a).mono (frz_mono o fun a h => List.mem_append_left _ h)) ((RepMs.frz' ms b).mono (frz_mono o fun a h => List.mem_append_right _ h))
theorem RepMK.frz' : ∀ (ms : List (D × M)) {A : List Addr} {vs : List (Key × V)}, RepMK W F H A vs ms → RepK W (frz F H A) vs (toKV ms)
  | [], _, _, h => by cases h; exact .nil
  | (k, m) :: ms, _, _, h => by
    have o := h.owns
    cases h with
    | cons a b =>
      exact .cons ((RepM.frz' m a).mono (frz_mono o fun a h => List.mem_append_left _ h)) ((RepMK.frz' ms b).mono (frz_mono o fun a h => List.mem_append_right _ h))
theorem RepMT.frz' : ∀ (ms : List (D × M)) {A : List Addr} {vs : List (List Key × V)}, RepMT W F H A vs ms → RepT W (frz F H A) vs (toKV ms)
  | [], _, _, h => by cases h; exact .nil
  | (k, m) :: ms, _, _, h => by
    have o := h.owns
    cases h with
    | cons a b =>
      exact .cons ((RepM.frz' m a).mono (frz_mono o fun a h => List.mem_append_left _ h)) ((RepMT.frz' ms b).mono (frz_mono o fun a h => List.mem_append_right _ h))
end
/-- read in the whole heap -/
theorem RepM.rep (s : Same F H) {A : List Addr} {v : V} {m : M} (h : RepM W F H A v m) : Rep W H v m.toD := (h.frz' m).mono (frz_sub s)
theorem RepMs.rep (s : Same F H) {A : List Addr} {v : List V} {m : List M} (h : RepMs W F H A v m) : RepL W H v (toDs m) := (h.frz' m).mono (frz_sub s)
theorem RepMs.fz : ∀ {vs : List V} {ds : List D}, RepL W F vs ds → RepMs W F H [] vs (ds.map M.fz)
  | _, _, .nil => .nil
  | _, _, .cons a b => .cons (A := []) (.fz a) (RepMs.fz b)
theorem RepMs.of_fz : ∀ {A : List Addr} {vs : List V} {ds : List D}, RepMs W F H A vs (ds.map M.fz) → RepL W F vs ds ∧ A = []
  | _, _, [], h => by cases h; exact ⟨.nil, rfl⟩
  | _, _, d :: ds, h => by
    cases h with
    | cons a b =>
      cases a with
      | fz a =>
        obtain ⟨h1, h2⟩ := RepMs.of_fz b
        exact ⟨.cons a h1, by rw [h2]; rfl⟩
theorem RepMs.length : ∀ {A : List Addr} {vs : List V} {ms : List M}, RepMs W F H A vs ms → vs.length = ms.length
  | _, _, _, .nil => rfl
  | _, _, _, .cons _ b => by rw [List.length_cons, List.length_cons, b.length]
theorem RepMK.length : ∀ {A : List Addr} {vs : List (Key × V)} {ms : List (D × M)}, RepMK W F H A vs ms → vs.length = ms.length
  | _, _, _, .nil => rfl
  | _, _, _, .cons _ b => by rw [List.length_cons, List.length_cons, b.length]
theorem RepMT.length : ∀ {A : List Addr} {vs : List (List Key × V)} {ms : List (D × M)}, RepMT W F H A vs ms → vs.length = ms.length
  | _, _, _, .nil => rfl
  | _, _, _, .cons _ b => by rw [List.length_cons, List.length_cons, b.length]
theorem RepMs.append : ∀ {A B : List Addr} {vs ws : List V} {ms ns : List M}, RepMs W F H A vs ms → RepMs W F H B ws ns → RepMs W F H (A ++ B) (vs ++ ws) (ms ++ ns)
  | _, _, _, _, _, _, .nil, s => s
  | _, _, _, _, _, _, .cons a b, s => by rw [List.append_assoc]; exact .cons a (b.append s)
end
end Bx
/-! Bx2: outcomes; states that grow; slots -/
namespace Bx
open PySem L2
/-- an error: its class, what it was made of -/
structure Er where
  c : Nat
  p : D
  deriving Inhabited
/-- an outcome: a value, an error, none that is known, a drawn number -/
inductive R (α : Type) : Type where
  | ret (a : α) | err (e : Er) | bad | take (n : Int) (k : Int → R α)
namespace R
def bind {α β : Type} : R α → (α → R β) → R β
  | ret a, f => f a
  | err e, _ => err e
  | bad, _ => bad
  | take n k, f => take n fun i => (k i).bind f
instance : Monad R where
  pure := ret
  bind := bind
def wp {α : Type} (Q : α → Prop) (E : Er → Prop) : R α → Prop
  | ret a => Q a
  | err e => E e
  | bad => False
  | take n k => (0 < n ∧ n < 1073741824) ∧ ∀ i, 0 ≤ i → i < n → (k i).wp Q E
@[simp] theorem ret_bind {α β : Type} (a : α) (f : α → R β) : (ret a >>= f) = f a := rfl
@[simp] theorem pure_bind' {α β : Type} (a : α) (f : α → R β) : ((pure a : R α) >>= f) = f a := rfl
@[simp] theorem err_bind {α β : Type} (e : Er) (f : α → R β) : ((err e : R α) >>= f) = err e := rfl
@[simp] theorem bad_bind {α β : Type} (f : α → R β) : ((bad : R α) >>= f) = bad := rfl
@[simp] theorem take_bind {α β : Type} (n : Int) (k : Int → R α) (f : α → R β) : (take n k >>= f) = take n fun i => k i >>= f := rfl
@[simp] theorem pure_eq {α : Type} (a : α) : (pure a : R α) = ret a := rfl
theorem bind_eq {α β : Type} (r : R α) (f : α → R β) : (r >>= f) = r.bind f := rfl
theorem bind_ret {α : Type} : ∀ (r : R α), (r >>= ret) = r
  | ret _ => rfl
  | err _ => rfl
  | bad => rfl
  | take n k => by rw [take_bind]; exact congrArg (take n) (funext fun i => bind_ret (k i))
theorem bind_assoc {α β γ : Type} : ∀ (r : R α) (f : α → R β) (g : β → R γ), ((r >>= f) >>= g) = (r >>= fun a => f a >>= g)
  | ret _, _, _ => rfl
  | err _, _, _ => rfl
  | bad, _, _ => rfl
  | take n k, f, g => by rw [take_bind, take_bind, take_bind]; exact congrArg (take n) (funext fun i => bind_assoc (k i) f g)
theorem wp_bind {α β : Type} {Q : β → Prop} {E : Er → Prop} {f : α → R β} : ∀ {r : R α}, (r >>= f).wp Q E ↔ r.wp (fun a => (f a).wp Q E) E
  | ret _ => Iff.rfl
  | err _ => Iff.rfl
  | bad => Iff.rfl
  | take n k => by
    rw [take_bind]
    unfold wp
    exact and_congr_right fun _ => forall_congr' fun i => imp_congr_right fun _ => imp_congr_right fun _ => wp_bind
theorem wp_mono {α : Type} {Q Q' : α → Prop} {E E' : Er → Prop} (hQ : ∀ a, Q a → Q' a) (hE : ∀ e, E e → E' e) : ∀ {r : R α}, r.wp Q E → r.wp Q' E'
  | ret _, h => hQ _ h
  | err _, h => hE _ h
  | bad, h => h
  | take n k, h => ⟨h.1, fun i h1 h2 => wp_mono hQ hE (h.2 i h1 h2)⟩
/-- where no error may come -/
def noerr {α : Type} : R α → R α
  | ret a => ret a
  | err _ => bad
  | bad => bad
  | take n k => take n fun i => (k i).noerr
theorem wp_noerr {α : Type} {Q : α → Prop} {E : Er → Prop} : ∀ {r : R α}, r.noerr.wp Q E → r.wp Q fun _ => False
  | ret _, h => h
  | err _, h => h
  | bad, h => h
  | take n k, h => ⟨h.1, fun i h1 h2 => wp_noerr (h.2 i h1 h2)⟩
theorem wp_ex {α : Type} {Q : α → Prop} : ∀ {r : R α}, r.wp Q (fun _ => False) → ∃ a, Q a
  | ret _, h => ⟨_, h⟩
  | err _, h => h.elim
  | bad, h => h.elim
  | take n k, h => wp_ex (h.2 0 (by omega) h.1.1)
@[simp] theorem noerr_ret {α : Type} (a : α) : (ret a).noerr = ret a := rfl
theorem wp_both {α : Type} {Q Q' : α → Prop} {E E' : Er → Prop} : ∀ {r : R α}, r.wp Q E → r.wp Q' E' → r.wp (fun a => Q a ∧ Q' a) (fun e => E e ∧ E' e)
  | ret _, h, g => ⟨h, g⟩
  | err _, h, g => ⟨h, g⟩
  | bad, h, _ => h
  | take n k, h, g => ⟨h.1, fun i h1 h2 => wp_both (h.2 i h1 h2) (g.2 i h1 h2)⟩
end R
section
variable {W : Wd} {F F' F1 F2 H H' H1 H2 : Hp} {A A' : List Addr} {v : V} {m : M}
/-- the state: what is data, what there is -/
structure St0 (W : Wd) (F H : Hp) : Prop where
  fh : Same F H
  wi : W.WI F H
  gh : ∀ a, W.Gh a → F a = none
theorem St0.ghs (s : St0 W F H) {a : Addr} (h : W.Gh a) : H a ≠ none := W.there _ _ _ s.wi h
theorem St0.nogh (s : St0 W F H) {a : Addr} (h : H a = none) : ¬ W.Gh a := fun g => s.ghs g h
theorem St0.fnone (s : St0 W F H) {a : Addr} (h : H a = none) : F a = none := s.fh.free h
/-- growth: nothing but the world's own objects is changed -/
structure Grow (W : Wd) (F H F' H' : Hp) : Prop where
  ff : Same F F'
  st : St0 W F' H'
  keep : ∀ a o, H a = some o → ¬ W.Gh a → H' a = some o
  nf : ∀ a o, H a = some o → F a = none → F' a = none
theorem Grow.refl (s : St0 W F H) : Grow W F H F H := ⟨Same.refl F, s, fun _ _ e _ => e, fun _ _ _ e => e⟩
theorem Grow.trans (a : Grow W F H F1 H1) (b : Grow W F1 H1 F2 H2) : Grow W F H F2 H2 :=
  ⟨a.ff.trans b.ff, b.st, fun x o e g => b.keep x o (a.keep x o e g) g, fun x o e n => by
    by_cases g : W.Gh x
    · exact b.st.gh x g
    · exact b.nf x o (a.keep x o e g) (a.nf x o e n)⟩
theorem Grow.free (g : Grow W F H F' H') {a : Addr} (h : H' a = none) : H a = none := by
  cases e : H a with
  | none => rfl
  | some o =>
    by_cases q : W.Gh a
    · exact absurd h (g.st.ghs q)
    · rw [g.keep a o e q] at h; cases h
theorem Grow.keeps (g : Grow W F H F' H') (o : Owns W F H A) : Keeps F H F' H' A :=
  ⟨g.ff, fun a ha x e => g.keep a x e (o a ha).2.2, fun a ha n => by
    obtain ⟨x, e⟩ := (o a ha).1
    exact g.nf a x e n⟩
theorem RepM.grow (h : RepM W F H A v m) (g : Grow W F H F' H') : RepM W F' H' A v m := h.keep (g.keeps h.owns)
theorem RepMs.grow {vs : List V} {ms : List M} (h : RepMs W F H A vs ms) (g : Grow W F H F' H') : RepMs W F' H' A vs ms := h.keep (g.keeps h.owns)
/-- a new object as data -/
theorem Grow.data (s : St0 W F H) {p : Addr} (o : HO) (hp : H p = none) : Grow W F H (upd F p o) (upd H p o) := by
  have ng := s.nogh hp
  have hf := s.fnone hp
  refine ⟨fun a x e => ?_, ⟨fun a x e => ?_, W.stab _ _ _ _ s.wi (fun a x e => ?_) (fun a g => ?_), fun a g => ?_⟩, fun a x e _ => ?_, fun a x e n => ?_⟩
  · rw [upd_ne (ne_of_none e hf)]; exact e
  · by_cases h : a = p
    · subst h; rw [upd_same] at e ⊢; exact e
    · rw [upd_ne h] at e ⊢; exact s.fh _ _ e
  · rw [upd_ne (ne_of_none e hf)]; exact e
  · rw [upd_ne fun z => ng (by rw [← z]; exact g)]
  · rw [upd_ne fun z => ng (by rw [← z]; exact g)]; exact s.gh a g
  · rw [upd_ne (ne_of_none e hp)]; exact e
  · rw [upd_ne (ne_of_none e hp)]; exact n
/-- a new object of one's own -/
theorem Grow.own (s : St0 W F H) {p : Addr} (o : HO) (hp : H p = none) : Grow W F H F (upd H p o) := by
  have ng := s.nogh hp
  refine ⟨Same.refl F, ⟨fun a x e => ?_, W.stab _ _ _ _ s.wi (Same.refl F) (fun a g => ?_), s.gh⟩, fun a x e _ => ?_, fun a x e n => n⟩
  · rw [upd_ne (ne_of_none (s.fh _ _ e) hp)]; exact s.fh _ _ e
  · rw [upd_ne fun z => ng (by rw [← z]; exact g)]
  · rw [upd_ne (ne_of_none e hp)]; exact e
/-- what is owned and new becomes data -/
theorem Grow.frz (s : St0 W F H) {F0 H0 : Hp} (g : Grow W F0 H0 F H) (o : Owns W F H A) (new : ∀ a ∈ A, H0 a = none) : Grow W F0 H0 (frz F H A) H := by
  refine ⟨g.ff.trans (frz_same o), ⟨frz_sub s.fh, W.stab _ _ _ _ s.wi (frz_same o) (fun _ _ => rfl), fun a q => ?_⟩, g.keep, fun a x e n => ?_⟩
  · rw [frz_out fun z => (o a z).2.2 q]; exact s.gh a q
  · by_cases h : a ∈ A
    · rw [new a h] at e; cases e
    · rw [frz_out h]; exact g.nf a x e n
theorem St0.frz (s : St0 W F H) (o : Owns W F H A) : St0 W (frz F H A) H :=
  ⟨frz_sub s.fh, W.stab _ _ _ _ s.wi (frz_same o) (fun _ _ => rfl), fun a q => by rw [frz_out fun z => (o a z).2.2 q]; exact s.gh a q⟩
/-! ### slots -/
abbrev En := List (Option M)
inductive Slots (W : Wd) (F H : Hp) : List Addr → En → St → Prop
  | nil : Slots W F H [] [] []
  | non {A : List Addr} {ρ : En} {σ : St} {x : Option V} : Slots W F H A ρ σ → Slots W F H A (none :: ρ) (x :: σ)
  | som {A B : List Addr} {ρ : En} {σ : St} {v : V} {m : M} : RepM W F H A v m → Slots W F H B ρ σ → Slots W F H (A ++ B) (some m :: ρ) (some v :: σ)
theorem Slots.owns : ∀ {A : List Addr} {ρ : En} {σ : St}, Slots W F H A ρ σ → Owns W F H A
  | _, _, _, .nil => .nil
  | _, _, _, .non h => h.owns
  | _, _, _, .som a h => a.owns.append h.owns
theorem Slots.keep : ∀ {A : List Addr} {ρ : En} {σ : St}, Slots W F H A ρ σ → Keeps F H F' H' A → Slots W F' H' A ρ σ
  | _, _, _, .nil, _ => .nil
  | _, _, _, .non h, k => .non (h.keep k)
  | _, _, _, .som a h, k => .som (a.keep k.left) (h.keep k.right)
theorem Slots.grow {ρ : En} {σ : St} (h : Slots W F H A ρ σ) (g : Grow W F H F' H') : Slots W F' H' A ρ σ := h.keep (g.keeps h.owns)
theorem Slots.length : ∀ {A : List Addr} {ρ : En} {σ : St}, Slots W F H A ρ σ → ρ.length = σ.length
  | _, _, _, .nil => rfl
  | _, _, _, .non h => by rw [List.length_cons, List.length_cons, h.length]
  | _, _, _, .som a h => by rw [List.length_cons, List.length_cons, h.length]
/-- the slot i apart: what it holds, what the others own, any other thing put there -/
theorem Slots.at : ∀ {A : List Addr} {ρ : En} {σ : St} {i : Nat}, Slots W F H A ρ σ → i < ρ.length →
    ∃ A1 Am A2, A = A1 ++ (Am ++ A2) ∧ (∀ m, ρ[i]? = some (some m) → ∃ v, σ[i]? = some (some v) ∧ RepM W F H Am v m) ∧ (ρ[i]? = some none → Am = []) ∧
      (∀ F' H' B v m, Keeps F H F' H' (A1 ++ A2) → RepM W F' H' B v m → Slots W F' H' (A1 ++ (B ++ A2)) (ρ.set i (some m)) (σ.set i (some v))) ∧
      (∀ F' H' x, Keeps F H F' H' (A1 ++ A2) → Slots W F' H' (A1 ++ A2) (ρ.set i none) (σ.set i x))
  | _, _, _, i, .nil, h => absurd h (by simp)
  | A, _, _, 0, .non h, _ => ⟨[], [], A, rfl, fun m e => by simp at e, fun _ => rfl, fun F' H' B v m k r => (show Slots W F' H' (B ++ A) _ _ from .som r (h.keep k)), fun F' H' x k => .non (h.keep k)⟩
  | _, _, _, 0, .som (A := A) (B := B) (v := v) a h, _ => ⟨[], A, B, rfl, fun m e => by simp at e; subst e; exact ⟨v, rfl, a⟩, fun e => by simp at e, fun F' H' C v m k r => (show Slots W F' H' (C ++ B) _ _ from .som r (h.keep k)), fun F' H' x k => .non (h.keep k)⟩
  | _, _, _, i + 1, .non (x := x) h, hi => by
    obtain ⟨A1, Am, A2, e, h1, h2, h3, h4⟩ := Slots.at (i := i) h (by simpa using hi)
    exact ⟨A1, Am, A2, e, fun m q => by simpa using h1 m (by simpa using q), fun q => h2 (by simpa using q), fun F' H' B v m k r => .non (h3 F' H' B v m k r), fun F' H' x k => .non (h4 F' H' x k)⟩
  | _, _, _, i + 1, .som (A := A) (B := B) a h, hi => by
    obtain ⟨A1, Am, A2, e, h1, h2, h3, h4⟩ := Slots.at (i := i) h (by simpa using hi)
    refine ⟨A ++ A1, Am, A2, by rw [e, List.append_assoc], fun m q => by simpa using h1 m (by simpa using q), fun q => h2 (by simpa using q), fun F' H' B v m k r => ?_, fun F' H' x k => ?_⟩
    · rw [List.append_assoc]
      rw [List.append_assoc] at k
      exact .som (a.keep k.left) (h3 F' H' B v m k.right r)
    · rw [List.append_assoc] at k ⊢
      exact .som (a.keep k.left) (h4 F' H' x k.right)
/-- the state with the slots -/
structure Good (W : Wd) (F H : Hp) (A : List Addr) (ρ : En) (σ : St) : Prop where
  st : St0 W F H
  sl : Slots W F H A ρ σ
  nd : A.Nodup
theorem Good.grow {ρ : En} {σ : St} (h : Good W F H A ρ σ) (g : Grow W F H F' H') : Good W F' H' A ρ σ := ⟨g.st, h.sl.grow g, h.nd⟩
/-- a slot read -/
theorem Slots.get {ρ : En} {σ : St} {i : Nat} (h : Slots W F H A ρ σ) (e : ρ[i]? = some (some m)) : ∃ v Am, σ[i]? = some (some v) ∧ RepM W F H Am v m ∧ ∀ a ∈ Am, a ∈ A := by
  obtain ⟨A1, Am, A2, e1, h1, _⟩ := h.at (List.getElem?_eq_some_iff.mp e).1
  obtain ⟨v, h2, h3⟩ := h1 m e
  exact ⟨v, Am, h2, h3, fun a ha => by rw [e1]; exact List.mem_append_right _ (List.mem_append_left _ ha)⟩
/-- a slot stored: B is new, or out of what the slot owned -/
theorem Good.set {ρ : En} {σ : St} {i : Nat} {B : List Addr} (h : Good W F H A ρ σ) (hi : i < ρ.length) (g : Grow W F H F' H') (r : RepM W F' H' B v m) (nd : B.Nodup) (new : ∀ a ∈ B, H a = none) :
    ∃ A', Good W F' H' A' (ρ.set i (some m)) (σ.set i (some v)) ∧ ∀ a ∈ A', a ∈ A ∨ H a = none := by
  obtain ⟨A1, Am, A2, e, _, _, h3, _⟩ := h.sl.at hi
  subst e
  have o := h.sl.owns
  have ndA := h.nd
  have dis : ∀ a ∈ A1 ++ A2, a ∉ B := fun a ha hb => by
    have : a ∈ A1 ++ (Am ++ A2) := by
      rcases List.mem_append.mp ha with z | z
      · exact List.mem_append_left _ z
      · exact List.mem_append_right _ (List.mem_append_right _ z)
    obtain ⟨x, hx⟩ := (o a this).1
    rw [new a hb] at hx; cases hx
  refine ⟨A1 ++ (B ++ A2), ⟨g.st, h3 F' H' B v m ((g.keeps o).sub fun a ha => ?_) r, ?_⟩, fun a ha => ?_⟩
  · rcases List.mem_append.mp ha with z | z
    · exact List.mem_append_left _ z
    · exact List.mem_append_right _ (List.mem_append_right _ z)
  · rw [List.nodup_append] at ndA ⊢
    obtain ⟨n1, n2, n3⟩ := ndA
    rw [List.nodup_append] at n2
    refine ⟨n1, List.nodup_append.mpr ⟨nd, n2.2.1, fun a ha b hb z => dis b (List.mem_append_right _ hb) (z ▸ ha)⟩, fun a ha b hb z => ?_⟩
    rcases List.mem_append.mp hb with hb | hb
    · exact dis a (List.mem_append_left _ ha) (z ▸ hb)
    · exact n3 a ha b (List.mem_append_right _ hb) z
  · rcases List.mem_append.mp ha with z | z
    · exact .inl (List.mem_append_left _ z)
    · rcases List.mem_append.mp z with z | z
      · exact .inr (new a z)
      · exact .inl (List.mem_append_right _ (List.mem_append_right _ z))
end
end Bx
/-! Bx3: the small language and what it works out -/
namespace Bx
open PySem L2
inductive Bop where | add | sub | mul | fdiv | mod | pow
  deriving DecidableEq
inductive Cop where | eq | ne | lt | le | gt | ge | isN | notN | isT | isF | notT | notF | mem | nmem
  deriving DecidableEq
/-- functions that are built in, of values -/
inductive Blt where | len | abs | int | sum | all | min1 | max1 | min2 | max2 | tuple | list | sorted | repr | dict1 | set1 | str
  deriving DecidableEq
/-- classes that isinstance is asked of -/
inductive Ty where | int | bool | str | tuple | list | dict | seq | own (c : Nat)
  deriving DecidableEq
/-- targets -/
inductive Tg where | nm (i : Nat) | tp (l : List Tg)
mutual
inductive E where
  | var (i : Nat) | con (d : D) | glob (x : Str) (d : D)
  | op (o : Bop) (a b : E) | neg (a : E)
  | cmp (o : Cop) (a b : E) | cmp2 (o o' : Cop) (a b c : E)
  | and_ (a b : E) | or_ (a b : E) | not_ (a : E) | ite (c : Te) (a b : E)
  | tup (es : Es) | lst (es : Es)
  | idx (a i : E) | slc (a : E) (lo hi : Oe) | rev (a : E)
  | blt (b : Blt) (es : Es) | isi (a : E) (t : Ty) | att (a : E) (x : Str)
  | call (f : Nat) (es : Es) (pm : List Nat)
  | comp (own : List Nat) (t : Tg) (it : Iz) (c : Oc) (e : E)
  | comp2 (own own1 : List Nat) (t : Tg) (it : Iz) (c : Oc) (t1 : Tg) (it1 : Iz) (c1 : Oc) (e : E)
inductive Es where
  | nil | cons (e : E) (es : Es) | star (e : E) (es : Es)
inductive Te where
  | and_ (a b : Te) | or_ (a b : Te) | not_ (a : Te) | val (e : E)
inductive Oe where
  | no | so (e : E)
inductive Oc where
  | no | so (t : Te)
inductive Iz where
  | val (e : E) | rng1 (e : E) | rng2 (a b : E) | zip (a b : E) | enum (a : E) | revd (a : E)
end
/-! ### data in Python's eyes -/
/-- the length that is let -/
abbrev sz : Nat := 1000000
mutual
/-- numbers, truths, texts, None, and lists and tuples of such, to a depth -/
def pl : Nat → D → Bool
  | _, .non => true
  | _, .bl _ => true
  | _, .int _ => true
  | _, .str x => PyData.strOk x
  | n + 1, .tup l => pls n l
  | n + 1, .lst l => pls n l
  | _, _ => false
def pls : Nat → List D → Bool
  | _, [] => true
  | n, d :: ds => pl n d && pls n ds
end
@[simp] theorem pl_dct (n : Nat) (l : List (D × D)) : pl n (.dct l) = false := by cases n <;> rfl
@[simp] theorem pl_scr (n : Nat) (k : List Int) : pl n (.scr k) = false := by cases n <;> rfl
@[simp] theorem pl_draw (n : Nat) : pl n .draw = false := by cases n <;> rfl
@[simp] theorem pl_fn (n k : Nat) : pl n (.fn k) = false := by cases n <;> rfl
@[simp] theorem pl_cls (n k : Nat) : pl n (.cls k) = false := by cases n <;> rfl
@[simp] theorem pl_exc (n k : Nat) (p : D) : pl n (.exc k p) = false := by cases n <;> rfl
@[simp] theorem pl_clo (n k : Nat) : pl n (.clo k) = false := by cases n <;> rfl
@[simp] theorem pl_tup0 (l : List D) : pl 0 (.tup l) = false := rfl
@[simp] theorem pl_lst0 (l : List D) : pl 0 (.lst l) = false := rfl
mutual
def deq : D → D → Bool
  | .non, .non => true
  | .bl a, .bl b => a == b
  | .bl a, .int j => (if a then 1 else 0) == j
  | .int i, .bl b => i == (if b then 1 else 0)
  | .int i, .int j => i == j
  | .str x, .str y => x == y
  | .lst xs, .lst ys => deqs xs ys
  | .tup xs, .tup ys => deqs xs ys
  | _, _ => false
def deqs : List D → List D → Bool
  | [], [] => true
  | x :: xs, y :: ys => deq x y && deqs xs ys
  | _, _ => false
end
/-- the items of a list or tuple that are data -/
def fzs : List M → Option (List D)
  | [] => some []
  | .fz d :: ms => (fzs ms).map (d :: ·)
  | _ :: _ => none
def seqM : M → Option (List D)
  | .fz (.tup l) => some l
  | .fz (.lst l) => some l
  | .ol ms => fzs ms
  | _ => none
def tupM : M → Option (List D)
  | .fz (.tup l) => some l
  | _ => none
def lstM : M → Option (List D)
  | .fz (.lst l) => some l
  | .ol ms => fzs ms
  | _ => none
def intM : M → Option Int
  | .fz (.int i) => some i
  | _ => none
def blM : M → Option Bool
  | .fz (.bl b) => some b
  | _ => none
def intsD : List D → Option (List Int)
  | [] => some []
  | .int i :: ds => (intsD ds).map (i :: ·)
  | _ :: _ => none
def blsD : List D → Option (List Bool)
  | [] => some []
  | .bl i :: ds => (blsD ds).map (i :: ·)
  | _ :: _ => none
/-- looked at, or handed on -/
def lookM : Bool → M → R M
  | _, .fz d => .ret (.fz d)
  | true, m => .ret m
  | false, _ => .bad
def varM (pk : Bool) : Option (Option M) → R M
  | some (some m) => lookM pk m
  | _ => .bad
abbrev mI (i : Int) : R M := .ret (.fz (.int i))
abbrev mB (b : Bool) : R M := .ret (.fz (.bl b))
abbrev mL (l : List D) : R M := .ret (.ol (l.map .fz))
abbrev mT (l : List D) : R M := .ret (.fz (.tup l))
def fits (i : Int) : Bool := decide (-(2 ^ 64) < i) && decide (i < 2 ^ 64)
def opM : Bop → M → M → R M
  | .add, .fz (.int i), .fz (.int j) => mI (i + j)
  | .sub, .fz (.int i), .fz (.int j) => mI (i - j)
  | .mul, .fz (.int i), .fz (.int j) => if fits i || fits j then mI (i * j) else .bad
  | .fdiv, .fz (.int i), .fz (.int j) => if decide (0 < j) && decide (j < 1073741824) then mI (i / j) else .bad
  | .mod, .fz (.int i), .fz (.int j) => if decide (0 < j) then mI (i % j) else .bad
  | .pow, .fz (.int i), .fz (.int j) => if decide (0 ≤ j) && decide (j ≤ 1000000) && decide (i.natAbs < 2 ^ 64) then mI (i ^ j.toNat) else .bad
  | .add, a, b => match tupM a, tupM b, lstM a, lstM b with
    | some l, some k, _, _ => if decide (l.length + k.length ≤ sz) then mT (l ++ k) else .bad
    | _, _, some l, some k => if decide (l.length + k.length ≤ sz) then mL (l ++ k) else .bad
    | _, _, _, _ => .bad
  | .mul, a, .fz (.int j) => match tupM a, lstM a with
    | some l, _ => if decide (2 ≤ j) && decide (j ≤ 1000) && decide (l.length ≤ 1000) && !l.isEmpty then mT (List.replicate j.toNat l).flatten else .bad
    | none, some l => if decide (j ≤ 1000000) && decide (-1000000 ≤ j) && decide (l.length * j.toNat ≤ sz) then mL (List.replicate j.toNat l).flatten else .bad
    | none, none => .bad
  | _, _, _ => .bad
def negM : M → R M
  | .fz (.int i) => mI (-i)
  | _ => .bad
def cmpI (p : Int → Int → Bool) : M → M → R M
  | .fz (.int i), .fz (.int j) => mB (p i j)
  | _, _ => .bad
def isnon : D → Bool
  | .non => true
  | _ => false
def isbl (b : Bool) : D → Bool
  | .bl c => b == c
  | _ => false
def cmpM : Cop → M → M → R M
  | .eq, .fz (.str a), .fz (.str b) => mB (decide (a = b))
  | .ne, .fz (.str a), .fz (.str b) => mB (!decide (a = b))
  | .eq, a, b => if pl 60 a.toD && pl 60 b.toD then mB (deq a.toD b.toD) else .bad
  | .ne, a, b => if pl 60 a.toD && pl 60 b.toD then mB (!deq a.toD b.toD) else .bad
  | .lt, a, b => cmpI (fun i j => decide (i < j)) a b
  | .le, a, b => cmpI (fun i j => decide (i ≤ j)) a b
  | .gt, a, b => cmpI (fun i j => decide (j < i)) a b
  | .ge, a, b => cmpI (fun i j => decide (j ≤ i)) a b
  | .isN, a, .fz .non => mB (isnon a.toD)
  | .notN, a, .fz .non => mB (!isnon a.toD)
  | .mem, a, b => match lstM b, tupM b with
    | some l, _ => if pl 60 a.toD && pls 60 l then mB (l.any fun x => deq x a.toD) else .bad
    | none, some l => if pl 0 a.toD && pls 0 l then mB (l.any fun x => deq x a.toD) else .bad
    | none, none => .bad
  | .nmem, a, b => match lstM b, tupM b with
    | some l, _ => if pl 60 a.toD && pls 60 l then mB (!l.any fun x => deq x a.toD) else .bad
    | none, some l => if pl 0 a.toD && pls 0 l then mB (!l.any fun x => deq x a.toD) else .bad
    | none, none => .bad
  | _, _, _ => .bad
/-- the truth of a value -/
def truM : M → R Bool
  | .fz (.bl b) => .ret b
  | .fz (.int i) => .ret (i != 0)
  | .fz .non => .ret false
  | .fz (.tup l) => .ret (!l.isEmpty)
  | .fz (.lst l) => .ret (!l.isEmpty)
  | .ol l => .ret (!l.isEmpty)
  | _ => .bad
/-- an item by its place -/
def idxM : M → M → R M
  | a, .fz (.int i) => match a with
    | .fz (.tup l) => match atI l i with | some d => .ret (.fz d) | none => .bad
    | .fz (.lst l) => match atI l i with | some d => .ret (.fz d) | none => .bad
    | .ol l => match atI l i with | some m => .ret m | none => .bad
    | _ => .bad
  | _, _ => .bad
/-- the items of a cut -/
def cut (l : List D) (lo hi : Option Int) : List D := (l.drop (HT.sIx l.length 0 lo)).take (HT.sIx l.length l.length hi - HT.sIx l.length 0 lo)
def slcM (a : M) (lo hi : Option Int) : R M :=
  match tupM a, lstM a with
  | some l, _ => mT (cut l lo hi)
  | none, some l => mL (cut l lo hi)
  | none, none => .bad
def asI : M → R (Option Int)
  | .fz (.int i) => .ret (some i)
  | _ => .bad
def isiM : Ty → M → R M
  | t, .fz (.int _) => mB (t == .int)
  | t, .fz (.bl _) => mB (t == .int || t == .bool)
  | t, .fz (.str _) => mB (t == .str)
  | t, .fz .non => mB false
  | t, .fz (.tup _) => mB (t == .tuple || t == .seq)
  | t, .fz (.lst _) => mB (t == .list || t == .seq)
  | t, .ol _ => mB (t == .list || t == .seq)
  | t, .fz (.dct _) => mB (t == .dict)
  | t, .od _ => mB (t == .dict)
  | _, _ => .bad
/-- the items that a for walks -/
def itM (m : M) : R (List D) := match seqM m with
  | some l => .ret l
  | none => .bad
def rngI (a b : Int) : List D := (List.range (b - a).toNat).map fun (k : Nat) => D.int (a + (k : Int))
def rng1M : M → R (List D)
  | .fz (.int n) => if decide (n ≤ sz) && decide (-sz ≤ n) then .ret (rngI 0 n) else .bad
  | _ => .bad
def rng2M : M → M → R (List D)
  | .fz (.int i), .fz (.int j) => if decide (j ≤ sz) && decide (-sz ≤ i) && decide (i ≤ sz) && decide (-sz ≤ j) then .ret (rngI i j) else .bad
  | _, _ => .bad
def zipM (x y : M) : R (List D) := match lstM x, lstM y, tupM x, tupM y with
  | some l, some k, _, _ => .ret ((l.zip k).map fun p => .tup [p.1, p.2])
  | _, _, some l, some k => .ret ((l.zip k).map fun p => .tup [p.1, p.2])
  | _, _, _, _ => .bad
def enumM (x : M) : R (List D) := match seqM x with
  | some l => .ret ((l.zipIdx).map fun p => .tup [.int (p.2 : Nat), p.1])
  | none => .bad
def revdM (x : M) : R (List D) := match seqM x with
  | some l => .ret l.reverse
  | none => .bad
/-- a comparison that goes on -/
def goM : M → R M → R M
  | .fz (.bl true), r => r
  | .fz (.bl false), _ => mB false
  | _, _ => .bad
/-- or, and, of truths -/
def orM : M → R M → R M
  | .fz (.bl true), _ => mB true
  | .fz (.bl false), r => r
  | _, _ => .bad
def asB : M → R M
  | .fz (.bl b) => mB b
  | _ => .bad
def notM : M → R M
  | .fz (.bl b) => mB (!b)
  | _ => .bad
def revM (x : M) : R M := match lstM x with
  | some l => mL l.reverse
  | none => .bad
def tupR (ms : List M) : R M := if decide (ms.length ≤ sz) then mT (toDs ms) else .bad
def lstR (ms : List M) : R M := if decide (ms.length ≤ sz) then .ret (.ol ms) else .bad
/-! ### targets -/
mutual
def bindT : Tg → D → En → Option En
  | .nm i, d, ρ => if i < ρ.length then some (ρ.set i (some (.fz d))) else none
  | .tp ts, .tup ds, ρ => bindTs ts ds ρ
  | .tp _, _, _ => none
def bindTs : List Tg → List D → En → Option En
  | [], [], ρ => some ρ
  | t :: ts, d :: ds, ρ => match bindT t d ρ with
    | some ρ' => bindTs ts ds ρ'
    | none => none
  | _, _, _ => none
end
def wipeE (ρ : En) : List Nat → En
  | [] => ρ
  | v :: vs => (wipeE ρ vs).set v none
def bindR {α : Type} : Option En → (En → R α) → R α
  | some ρ, f => f ρ
  | none, _ => .bad
/-- the turns of a comprehension -/
def compL {α β : Type} (f : α → R (List β)) : List α → R (List β)
  | [] => .ret []
  | x :: xs => do
    let a ← f x
    let r ← compL f xs
    .ret (a ++ r)
def arg1 (f : M → R M) : List M → R M
  | [m] => f m
  | _ => .bad
def arg2 (f : M → M → R M) : List M → R M
  | [m, n] => f m n
  | _ => .bad
def lenM : M → R M
  | .fz (.tup l) => mI l.length
  | .fz (.lst l) => mI l.length
  | .fz (.dct l) => mI l.length
  | .fz (.scr ns) => mI ns.length
  | .ol l => mI l.length
  | .od l => mI l.length
  | _ => .bad
def absM : M → R M
  | .fz (.int i) => mI (if i < 0 then -i else i)
  | _ => .bad
def intF : M → R M
  | .fz (.int i) => mI i
  | _ => .bad
def min2M : M → M → R M
  | .fz (.int i), .fz (.int j) => mI (if j < i then j else i)
  | _, _ => .bad
def max2M : M → M → R M
  | .fz (.int i), .fz (.int j) => mI (if j > i then j else i)
  | _, _ => .bad
def sumM (m : M) : R M := match (seqM m).bind intsD with
  | some ns => mI ns.sum
  | none => .bad
def allM (m : M) : R M := match (lstM m).bind blsD with
  | some bs => mB (bs.all id)
  | none => .bad
def tupleM (m : M) : R M := match tupM m, lstM m with
  | some l, _ => mT l
  | none, some l => mT l
  | none, none => .bad
def listM (m : M) : R M := match seqM m with
  | some l => mL l
  | none => .bad
/-- the built-in functions that are of values -/
def bltM : Blt → List M → R M
  | .len => arg1 lenM
  | .abs => arg1 absM
  | .int => arg1 intF
  | .min2 => arg2 min2M
  | .max2 => arg2 max2M
  | .sum => arg1 sumM
  | .all => arg1 allM
  | .tuple => arg1 tupleM
  | .list => arg1 listM
  | _ => fun _ => .bad
section
variable (Φ : Nat → List D → R M)
mutual
def evE : E → Bool → En → R M
  | .var i, pk, ρ => varM pk ρ[i]?
  | .con d, _, _ => .ret (.fz d)
  | .glob _ d, _, _ => .ret (.fz d)
  | .op o a b, _, ρ => do
    let x ← evE a true ρ
    let y ← evE b true ρ
    opM o x y
  | .neg a, _, ρ => do
    let x ← evE a true ρ
    negM x
  | .cmp o a b, _, ρ => do
    let x ← evE a true ρ
    let y ← evE b true ρ
    cmpM o x y
  | .cmp2 o o' a b c, _, ρ => do
    let x ← evE a true ρ
    let y ← evE b true ρ
    let t ← cmpM o x y
    goM t (do
      let z ← evE c true ρ
      cmpM o' y z)
  | .and_ a b, _, ρ => do
    let x ← evE a true ρ
    goM x (do
      let y ← evE b true ρ
      asB y)
  | .or_ a b, _, ρ => do
    let x ← evE a true ρ
    orM x (do
      let y ← evE b true ρ
      asB y)
  | .not_ a, _, ρ => do
    let x ← evE a true ρ
    notM x
  | .ite c a b, pk, ρ => do
    let t ← evT c ρ
    if t then evE a pk ρ else evE b pk ρ
  | .tup es, _, ρ => do
    let ms ← evEs es ρ
    tupR ms
  | .lst es, _, ρ => do
    let ms ← evEs es ρ
    lstR ms
  | .idx a i, pk, ρ => do
    let x ← evE a true ρ
    let y ← evE i true ρ
    let m ← idxM x y
    lookM pk m
  | .slc a lo hi, _, ρ => do
    let x ← evE a true ρ
    let l ← evO lo ρ
    let h ← evO hi ρ
    slcM x l h
  | .rev a, _, ρ => do
    let x ← evE a true ρ
    revM x
  | .blt b es, _, ρ => do
    let ms ← evPs es ρ
    bltM b ms
  | .isi a t, _, ρ => do
    let x ← evE a true ρ
    isiM t x
  | .att _ _, _, _ => .bad
  | .call f es pm, _, ρ => do
    let ms ← evEs es ρ
    Φ f (pm.map fun k => (toDs ms).getD k .non)
  | .comp own t it c e, _, ρ => do
    let xs ← evIt it true ρ
    let l ← (compL (fun x => bindR (bindT t x (wipeE ρ own)) fun ρ' => do
      let b ← evC c ρ'
      if b then do
        let m ← evE e false ρ'
        .ret [m]
      else .ret []) xs).noerr
    lstR l
  | .comp2 own own1 t it c t1 it1 c1 e, _, ρ => do
    let xs ← evIt it true ρ
    let l ← (compL (fun x => bindR (bindT t x (wipeE ρ own)) fun ρ' => do
      let b ← evC c ρ'
      if b then do
        let ys ← evIt it1 true ρ'
        compL (fun y => bindR (bindT t1 y (wipeE ρ' own1)) fun ρ'' => do
          let b1 ← evC c1 ρ''
          if b1 then do
            let m ← evE e false ρ''
            .ret [m]
          else .ret []) ys
      else .ret []) xs).noerr
    lstR l
/-- a test -/
def evT : Te → En → R Bool
  | .and_ a b, ρ => do
    let t ← evT a ρ
    if t then evT b ρ else .ret false
  | .or_ a b, ρ => do
    let t ← evT a ρ
    if t then .ret true else evT b ρ
  | .not_ a, ρ => do
    let t ← evT a ρ
    .ret (!t)
  | .val e, ρ => do
    let m ← evE e true ρ
    truM m
/-- items of a display, arguments -/
def evEs : Es → En → R (List M)
  | .nil, _ => .ret []
  | .cons e es, ρ => do
    let m ← evE e false ρ
    let ms ← evEs es ρ
    .ret (m :: ms)
  | .star e es, ρ => do
    let m ← evE e true ρ
    let l ← itM m
    let ms ← evEs es ρ
    .ret (l.map .fz ++ ms)
/-- arguments that are only looked at -/
def evPs : Es → En → R (List M)
  | .nil, _ => .ret []
  | .cons e es, ρ => do
    let m ← evE e true ρ
    let ms ← evPs es ρ
    .ret (m :: ms)
  | .star _ _, _ => .bad
def evO : Oe → En → R (Option Int)
  | .no, _ => .ret none
  | .so e, ρ => do
    let m ← evE e true ρ
    asI m
def evC : Oc → En → R Bool
  | .no, _ => .ret true
  | .so t, ρ => evT t ρ
def evIt : Iz → Bool → En → R (List D)
  | .val e, pk, ρ => do
    let m ← evE e pk ρ
    itM m
  | .rng1 e, _, ρ => do
    let m ← evE e true ρ
    rng1M m
  | .rng2 a b, _, ρ => do
    let x ← evE a true ρ
    let y ← evE b true ρ
    rng2M x y
  | .zip a b, pk, ρ => do
    let x ← evE a pk ρ
    let y ← evE b pk ρ
    zipM x y
  | .enum a, pk, ρ => do
    let x ← evE a pk ρ
    enumM x
  | .revd a, pk, ρ => do
    let x ← evE a pk ρ
    revdM x
end
end
end Bx
/-! Bx4: expressions work out what the small language says -/
namespace Bx
open PySem PySem.Spec L2
/-- what a flying error is -/
def ErR (W : Wd) (F : Hp) (cl : Value) (d : Option Addr) (e : Er) : Prop :=
  cl = .ref (W.clsA e.c) ∧ ((d = none ∧ e.p = .non ∧ W.hf e.c = false) ∨ ∃ dd v, d = some dd ∧ W.hf e.c = true ∧ F dd = some (.xd [(W.fld e.c, v)]) ∧ Rep W F v e.p)
/-- new, or (looked at) out of what the slots own -/
def Own (pk : Bool) (A : List Addr) (H : Hp) (A' : List Addr) : Prop := (∀ a ∈ A', (pk = true ∧ a ∈ A) ∨ H a = none) ∧ (pk = false → A'.Nodup)
theorem Own.nil {pk : Bool} {A : List Addr} {H : Hp} : Own pk A H [] := ⟨fun _ h => absurd h (by simp), fun _ => List.nodup_nil⟩
theorem Own.pk {A : List Addr} {H : Hp} {pk : Bool} {A' : List Addr} (o : Own pk A H A') : Own true A H A' := ⟨fun a h => (o.1 a h).imp (fun z => ⟨rfl, z.2⟩) id, fun z => nomatch z⟩
theorem Own.fresh {A : List Addr} {H : Hp} {A' : List Addr} (o : Own false A H A') : ∀ a ∈ A', H a = none := fun a h => (o.1 a h).elim (fun z => nomatch z.1) id
theorem Own.of_new {pk : Bool} {A : List Addr} {H : Hp} {A' : List Addr} (h : ∀ a ∈ A', H a = none) (nd : A'.Nodup) : Own pk A H A' := ⟨fun a ha => .inr (h a ha), fun _ => nd⟩
theorem Own.back {pk : Bool} {A : List Addr} {W : Wd} {F H F1 H1 : Hp} {A' : List Addr} (o : Own pk A H1 A') (g : Grow W F H F1 H1) : Own pk A H A' := ⟨fun a h => (o.1 a h).imp id g.free, o.2⟩
/-- the wish about errors -/
def EW (W : Wd) (Wx : WX) (F H : Hp) (σ : St) : Er → Prop := fun e => ∀ cl d F' H', Grow W F H F' H' → ErR W F' cl d e → Wx cl d σ H'
theorem EW.grow {W : Wd} {Wx : WX} {F H F1 H1 : Hp} {σ : St} {e : Er} (h : EW W Wx F H σ e) (g : Grow W F H F1 H1) : EW W Wx F1 H1 σ e := fun cl d F' H' g' r => h cl d F' H' (g.trans g') r
/-- an expression that works out r -/
def XT (W : Wd) (Wx : WX) (pk : Bool) (r : En → R M) : TE := fun σ H Q => ∃ F A ρ, Good W F H A ρ σ ∧
  (r ρ).wp (fun m => ∀ v F' H' A', Grow W F H F' H' → RepM W F' H' A' v m → Own pk A H A' → Q v H') (EW W Wx F H σ)
/-- a test -/
def XTt (W : Wd) (Wx : WX) (r : En → R Bool) : TT := fun σ H Q => ∃ F A ρ, Good W F H A ρ σ ∧
  (r ρ).wp (fun b => ∀ F' H', Grow W F H F' H' → Q b H') (EW W Wx F H σ)
/-- arguments; items of a display (pk = false) -/
def XTa (W : Wd) (Wx : WX) (pk : Bool) (r : En → R (List M)) : TA := fun σ H Q => ∃ F A ρ, Good W F H A ρ σ ∧
  (r ρ).wp (fun ms => ∀ vs F' H' A', Grow W F H F' H' → RepMs W F' H' A' vs ms → Own pk A H A' → Q vs H') (EW W Wx F H σ)
theorem pe_imp {X : Cx} {e : Expr} {t t' : TE} (h : PE X e t) (i : ∀ σ H Q, t' σ H Q → t σ H Q) : PE X e t' := ⟨fun pins s σ H Q I q => h.run pins s σ H Q I (i σ H Q q)⟩
theorem pt_imp {X : Cx} {e : Expr} {t t' : TT} (h : PT X e t) (i : ∀ σ H Q, t' σ H Q → t σ H Q) : PT X e t' := ⟨fun pins s σ H Q I q => h.run pins s σ H Q I (i σ H Q q)⟩
theorem pw_imp {X : Cx} {e : Expr} {t t' : TT} (h : PW X e t) (i : ∀ σ H Q, t' σ H Q → t σ H Q) : PW X e t' := ⟨fun wh pins s σ H Q I q => h.run wh pins s σ H Q I (i σ H Q q)⟩
theorem pa_imp {X : Cx} {e : List Expr} {t t' : TA} (h : PA X e t) (i : ∀ σ H Q, t' σ H Q → t σ H Q) : PA X e t' := ⟨fun pos pins s σ H Q I q => h.run pos pins s σ H Q I (i σ H Q q)⟩
section
variable {X : Cx} {W : Wd} {Wx : WX} {F H : Hp} {A : List Addr} {ρ : En} {σ : St} {pk : Bool}
/-- one part, then the rest -/
theorem XT.use {β : Type} {r : En → R M} {k : M → R β} {QQ : β → Prop} {P : VK} (G : Good W F H A ρ σ) (h : (r ρ >>= k).wp QQ (EW W Wx F H σ))
    (next : ∀ m v F' H' A', Grow W F H F' H' → RepM W F' H' A' v m → Own pk A H A' → (k m).wp QQ (EW W Wx F' H' σ) → P v H') : XT W Wx pk r σ H P :=
  ⟨F, A, ρ, G, R.wp_mono (fun m hm v F' H' A' g r o => next m v F' H' A' g r o (R.wp_mono (fun _ q => q) (fun _ q => q.grow g) hm)) (fun _ q => q) (R.wp_bind.mp h)⟩
theorem XTt.use {β : Type} {r : En → R Bool} {k : Bool → R β} {QQ : β → Prop} {P : Bool → Hp → Prop} (G : Good W F H A ρ σ) (h : (r ρ >>= k).wp QQ (EW W Wx F H σ))
    (next : ∀ m F' H', Grow W F H F' H' → (k m).wp QQ (EW W Wx F' H' σ) → P m H') : XTt W Wx r σ H P :=
  ⟨F, A, ρ, G, R.wp_mono (fun m hm F' H' g => next m F' H' g (R.wp_mono (fun _ q => q) (fun _ q => q.grow g) hm)) (fun _ q => q) (R.wp_bind.mp h)⟩
theorem XTa.use {β : Type} {r : En → R (List M)} {k : List M → R β} {QQ : β → Prop} {P : List V → Hp → Prop} (G : Good W F H A ρ σ) (h : (r ρ >>= k).wp QQ (EW W Wx F H σ))
    (next : ∀ m v F' H' A', Grow W F H F' H' → RepMs W F' H' A' v m → Own pk A H A' → (k m).wp QQ (EW W Wx F' H' σ) → P v H') : XTa W Wx pk r σ H P :=
  ⟨F, A, ρ, G, R.wp_mono (fun m hm v F' H' A' g r o => next m v F' H' A' g r o (R.wp_mono (fun _ q => q) (fun _ q => q.grow g) hm)) (fun _ q => q) (R.wp_bind.mp h)⟩
/-- what is wanted of a value that is worked out at once -/
theorem XT.fin {r : En → R M} {P : VK} (G : Good W F H A ρ σ) (h : (r ρ).wp (fun m => ∀ v F' H' A', Grow W F H F' H' → RepM W F' H' A' v m → Own pk A H A' → P v H') (EW W Wx F H σ)) : XT W Wx pk r σ H P := ⟨F, A, ρ, G, h⟩
/-! ### names, constants -/
theorem px_var {i : Nat} {x : Str} {pos : Pos} (hN : X.N[i]? = some x) (hv : Vis X.env.scope x) (hd : (x == ("__debug__" : Str)) = false) (hcd : (x == ("__classdict__" : Str)) = false) :
    PE X (.Name x pos) (XT W Wx pk fun ρ => varM pk ρ[i]?) := by
  refine pe_imp (pe_var hN hv hd hcd) fun σ H Q h => ?_
  obtain ⟨F, A, ρ, G, h⟩ := h
  have h : R.wp _ _ (varM pk ρ[i]?) := h
  cases em : ρ[i]? with
  | none => rw [em] at h; exact h.elim
  | some o =>
    cases o with
    | none => rw [em] at h; exact h.elim
    | some m =>
      rw [em] at h
      obtain ⟨v, Am, e, r, sub⟩ := G.sl.get em
      refine ⟨v, e, ?_⟩
      have h : R.wp _ _ (lookM pk m) := h
      cases m with
      | fz d =>
        cases r with
        | fz r => exact h v F H [] (Grow.refl G.st) (.fz r) .nil
      | ol ms =>
        cases pk with
        | true => exact h v F H Am (Grow.refl G.st) r ⟨fun a ha => .inl ⟨rfl, sub a ha⟩, fun z => nomatch z⟩
        | false => exact h.elim
      | od ms =>
        cases pk with
        | true => exact h v F H Am (Grow.refl G.st) r ⟨fun a ha => .inl ⟨rfl, sub a ha⟩, fun z => nomatch z⟩
        | false => exact h.elim
theorem px_con {e : Expr} {v : V} {d : D} (hv : PE X e (tC v)) (hr : ∀ F, Rep W F v d) : PE X e (XT W Wx pk fun _ => .ret (.fz d)) := by
  refine pe_imp hv fun σ H Q h => ?_
  obtain ⟨F, A, ρ, G, h⟩ := h
  exact h v F H [] (Grow.refl G.st) (.fz (hr F)) .nil
/-! ### operators -/
/-- a two-place operator by values -/
def RM2 (W : Wd) (f : M → M → R M) : R2 := fun x y H Q => ∃ F A1 A2 m1 m2, St0 W F H ∧ RepM W F H A1 x m1 ∧ RepM W F H A2 y m2 ∧
  ∃ m, f m1 m2 = .ret m ∧ ∀ v F' H' A', Grow W F H F' H' → RepM W F' H' A' v m → (∀ a ∈ A', H a = none) → A'.Nodup → Q v H'
def isRet {α : Type} : R α → Bool
  | .ret _ => true
  | .bad => true
  | _ => false
theorem isRet_wp {α : Type} {r : R α} {Q : α → Prop} {E : Er → Prop} (i : isRet r = true) (h : r.wp Q E) : ∃ m, r = .ret m ∧ Q m := by
  cases r with
  | ret a => exact ⟨a, rfl, h⟩
  | bad => exact h.elim
  | err e => cases i
  | take n k => cases i
theorem px_op2 {a b : Expr} {pos : Pos} {op : Operator} {f : M → M → R M} {ra rb : En → R M} (ho : OpR X (binaryOp op) (RM2 W f)) (hi : ∀ x y, isRet (f x y) = true) (ha : PE X a (XT W Wx true ra)) (hb : PE X b (XT W Wx true rb)) :
    PE X (.BinOp a op b pos) (XT W Wx pk fun ρ => do
      let x ← ra ρ
      let y ← rb ρ
      f x y) := by
  refine pe_imp (pe_op ho ha hb) fun σ H Q h => ?_
  obtain ⟨F, A, ρ, G, h⟩ := h
  refine XT.use G h fun m v F1 H1 A1 g1 r1 o1 h1 => ?_
  refine XT.use (G.grow g1) h1 fun m2 v2 F2 H2 A2 g2 r2 o2 h2 => ?_
  obtain ⟨z, ez, q⟩ := isRet_wp (hi m m2) h2
  exact ⟨F2, A1, A2, m, m2, g2.st, r1.grow g2, r2, z, ez, fun v F' H' A' g r nw nd => q v F' H' A' ((g1.trans g2).trans g) r (Own.of_new (fun a ha => (g1.trans g2).free (nw a ha)) nd)⟩
theorem px_cmp {a b : Expr} {pos : Pos} {op : CmpOp} {f : M → M → R M} {ra rb : En → R M} (ho : OpR X (compareOp op) (RM2 W f)) (hi : ∀ x y, isRet (f x y) = true) (ha : PE X a (XT W Wx true ra)) (hb : PE X b (XT W Wx true rb)) (hm : behindInMarks op b = false) :
    PE X (.Compare a [op] [b] pos) (XT W Wx pk fun ρ => do
      let x ← ra ρ
      let y ← rb ρ
      f x y) := by
  refine pe_imp (pe_cmpR ho ha hb hm) fun σ H Q h => ?_
  obtain ⟨F, A, ρ, G, h⟩ := h
  refine XT.use G h fun m v F1 H1 A1 g1 r1 o1 h1 => ?_
  refine XT.use (G.grow g1) h1 fun m2 v2 F2 H2 A2 g2 r2 o2 h2 => ?_
  obtain ⟨z, ez, q⟩ := isRet_wp (hi m m2) h2
  exact ⟨F2, A1, A2, m, m2, g2.st, r1.grow g2, r2, z, ez, fun v F' H' A' g r nw nd => q v F' H' A' ((g1.trans g2).trans g) r (Own.of_new (fun a ha => (g1.trans g2).free (nw a ha)) nd)⟩
/-- a one-place operator by values -/
def RM1 (W : Wd) (f : M → R M) : V → Hp → VK → Prop := fun x H Q => ∃ F A1 m1, St0 W F H ∧ RepM W F H A1 x m1 ∧
  ∃ m, f m1 = .ret m ∧ ∀ v F' H' A', Grow W F H F' H' → RepM W F' H' A' v m → (∀ a ∈ A', H a = none) → A'.Nodup → Q v H'
theorem px_un {a : Expr} {pos : Pos} {op : UnaryOp} {f : M → R M} {ra : En → R M} (ho : UnR X (unaryOp op) (RM1 W f)) (hi : ∀ x, isRet (f x) = true) (ha : PE X a (XT W Wx true ra)) :
    PE X (.UnaryOp op a pos) (XT W Wx pk fun ρ => do
      let x ← ra ρ
      f x) := by
  refine pe_imp (pe_un ho ha) fun σ H Q h => ?_
  obtain ⟨F, A, ρ, G, h⟩ := h
  refine XT.use G h fun m v F1 H1 A1 g1 r1 o1 h1 => ?_
  obtain ⟨z, ez, q⟩ := isRet_wp (hi m) h1
  exact ⟨F1, A1, m, g1.st, r1, z, ez, fun v F' H' A' g r nw nd => q v F' H' A' (g1.trans g) r (Own.of_new (fun a ha => g1.free (nw a ha)) nd)⟩
end
/-! ### what stands for a value of a kind -/
section
variable {W : Wd} {F H : Hp} {A : List Addr} {v : V} {m : M}
theorem fzs_eq : ∀ {ms : List M} {l : List D}, fzs ms = some l → ms = l.map M.fz
  | [], l, h => by cases h; rfl
  | .fz d :: ms, l, h => by
    simp only [fzs] at h
    cases e : fzs ms with
    | none => rw [e] at h; cases h
    | some k => rw [e] at h; cases h; rw [fzs_eq e]; rfl
  | .ol _ :: _, _, h => by cases h
  | .od _ :: _, _, h => by cases h
theorem fzs_map (l : List D) : fzs (l.map M.fz) = some l := by
  induction l with
  | nil => rfl
  | cons d l ih => show (fzs (l.map M.fz)).map (d :: ·) = _; rw [ih]; rfl
theorem lst_rep (s : St0 W F H) (r : RepM W F H A v m) {l : List D} (h : lstM m = some l) : ∃ a xs, v = .ref a ∧ H a = some (.lst xs) ∧ RepL W F xs l := by
  unfold lstM at h
  split at h
  · cases h
    cases r with
    | fz r => cases r with
      | lst h1 h2 => exact ⟨_, _, rfl, s.fh _ _ h1, h2⟩
  · have e := fzs_eq h
    subst e
    cases r with
    | ol h1 h2 h3 h4 => exact ⟨_, _, rfl, h1, (RepMs.of_fz h4).1⟩
  · cases h
theorem tup_rep (s : St0 W F H) (r : RepM W F H A v m) {l : List D} (h : tupM m = some l) : ∃ a xs, v = .ref a ∧ SqT W.K F a xs ∧ SqT W.K H a xs ∧ RepL W F xs l := by
  unfold tupM at h
  split at h
  · cases h
    cases r with
    | fz r => cases r with
      | tup h1 h2 => exact ⟨_, _, rfl, h1, sqT_mono s.fh h1, h2⟩
  · cases h
theorem seq_rep (s : St0 W F H) (r : RepM W F H A v m) {l : List D} (h : seqM m = some l) : ∃ a xs, v = .ref a ∧ (H a = some (.lst xs) ∨ SqT W.K H a xs) ∧ RepL W F xs l := by
  unfold seqM at h
  split at h
  · obtain ⟨a, xs, e, _, h1, h2⟩ := tup_rep s r (l := l) (by cases h; rfl)
    exact ⟨a, xs, e, .inr h1, h2⟩
  · obtain ⟨a, xs, e, h1, h2⟩ := lst_rep s r (l := l) (by cases h; rfl)
    exact ⟨a, xs, e, .inl h1, h2⟩
  · obtain ⟨a, xs, e, h1, h2⟩ := lst_rep s r (l := l) (by exact h)
    exact ⟨a, xs, e, .inl h1, h2⟩
  · cases h
theorem int_rep {i : Int} (r : RepM W F H A v (.fz (.int i))) : v = .int i := by
  cases r with
  | fz r => cases r; rfl
theorem bl_rep {b : Bool} (r : RepM W F H A v (.fz (.bl b))) : v = .bl b := by
  cases r with
  | fz r => cases r; rfl
theorem non_rep (r : RepM W F H A v (.fz .non)) : v = .non := by
  cases r with
  | fz r => cases r; rfl
theorem sqL_of {K : PySem.W.Frag} {a : Addr} {xs : List V} (h : H a = some (.lst xs)) : SqL K H a xs := .inl (.inl h)
theorem seq_or {K : PySem.W.Frag} {a : Addr} {xs : List V} (h : H a = some (.lst xs) ∨ SqT K H a xs) : SqL K H a xs ∨ SqT K H a xs := h.imp sqL_of id
/-- a new list of data, one's own -/
theorem newL (s : St0 W F H) {xs : List V} {l : List D} (r : RepL W F xs l) {p : Addr} (hp : H p = none) : Grow W F H F (upd H p (.lst xs)) ∧ RepM W F (upd H p (.lst xs)) [p] (.ref p) (.ol (l.map .fz)) :=
  ⟨Grow.own s _ hp, by
    have := RepM.ol (W := W) (F := F) (H := upd H p (.lst xs)) (a := p) (As := []) upd_same (s.fnone hp) (s.nogh hp) (RepMs.fz r)
    exact this⟩
/-- a new tuple -/
theorem newT (s : St0 W F H) {xs : List V} {l : List D} (r : RepL W F xs l) {p : Addr} (hp : H p = none) : Grow W F H (upd F p (.tup xs)) (upd H p (.tup xs)) ∧ RepM W (upd F p (.tup xs)) (upd H p (.tup xs)) [] (.ref p) (.fz (.tup l)) :=
  ⟨Grow.data s _ hp, .fz (.tup (SqT.of upd_same) (r.mono (Grow.data s (.tup xs) hp).ff))⟩
theorem sz_line {n : Nat} (h : n ≤ sz) : n ≤ sizeLine := Nat.le_trans h (by decide)
theorem sz_lt {n : Nat} (h : n ≤ sz) : n < sizeLine := Nat.lt_of_le_of_lt h (by decide)
end
end Bx
/-! Bx5: operators, comparisons -/
namespace Bx
open PySem PySem.Spec L2
def Bop.py : Bop → Operator
  | .add => .Add | .sub => .Sub | .mul => .Mult | .fdiv => .FloorDiv | .mod => .Mod | .pow => .Pow
theorem opM_ret (o : Bop) (a b : M) : isRet (opM o a b) = true := by
  unfold opM
  repeat' split
  all_goals rfl
theorem negM_ret (a : M) : isRet (negM a) = true := by
  unfold negM
  split <;> rfl
theorem cmpM_ret (o : Cop) (a b : M) : isRet (cmpM o a b) = true := by
  unfold cmpM
  repeat' split
  all_goals first | rfl | (unfold cmpI; split <;> rfl)
section
variable {X : Cx} {W : Wd} {A1 A2 : List Addr} {x y : V} {m1 m2 m : M} {F H : Hp} {Q : VK}
abbrev Fin1 (W : Wd) (F H : Hp) (Q : VK) (m : M) : Prop := ∀ v F' H' A', Grow W F H F' H' → RepM W F' H' A' v m → (∀ a ∈ A', H a = none) → A'.Nodup → Q v H'
theorem fin_int {i : Int} (s : St0 W F H) (q : Fin1 W F H Q (.fz (.int i))) : Q (.int i) H := q _ F H [] (Grow.refl s) (.fz (.int _)) (fun _ h => absurd h (by simp)) List.nodup_nil
theorem fin_bl {i : Bool} (s : St0 W F H) (q : Fin1 W F H Q (.fz (.bl i))) : Q (.bl i) H := q _ F H [] (Grow.refl s) (.fz (.bl _)) (fun _ h => absurd h (by simp)) List.nodup_nil
theorem fin_old {v : V} {d : D} (s : St0 W F H) (r : Rep W F v d) (q : Fin1 W F H Q (.fz d)) : Q v H := q _ F H [] (Grow.refl s) (.fz r) (fun _ h => absurd h (by simp)) List.nodup_nil
theorem fin_newL {xs : List V} {l : List D} (s : St0 W F H) (r : RepL W F xs l) (q : Fin1 W F H Q (.ol (l.map .fz))) : ∀ p, H p = none → Q (.ref p) (upd H p (.lst xs)) := fun p hp => by
  obtain ⟨g, r'⟩ := newL s r hp
  exact q _ _ _ _ g r' (fun a h => (show a = p from by simpa using h) ▸ hp) (by simp)
theorem fin_newT {xs : List V} {l : List D} (s : St0 W F H) (r : RepL W F xs l) (q : Fin1 W F H Q (.fz (.tup l))) : ∀ p, H p = none → Q (.ref p) (upd H p (.tup xs)) := fun p hp => by
  obtain ⟨g, r'⟩ := newT s r hp
  exact q _ _ _ _ g r' (fun a h => absurd h (by simp)) List.nodup_nil
theorem fits_mul {i j : Int} (h : (fits i || fits j) = true) : CMul i j := by
  unfold fits at h
  unfold CMul
  simp only [Bool.or_eq_true, Bool.and_eq_true, decide_eq_true_eq] at h
  exact h
theorem repl_rep {xs : List V} {l : List D} (r : RepL W F xs l) : ∀ n : Nat, RepL W F (List.replicate n xs).flatten (List.replicate n l).flatten
  | 0 => .nil
  | n + 1 => by rw [List.replicate_succ, List.replicate_succ, List.flatten_cons, List.flatten_cons]; exact r.append (repl_rep r n)
theorem op_ok (hK : X.K = W.K) (o : Bop) : OpR X (binaryOp o.py) (RM2 W (opM o)) := by
  intro pins s σ H x y v u Q I rx ry h
  obtain ⟨F, A1, A2, m1, m2, st, r1, r2, z, ez, q⟩ := h
  unfold opM at ez
  split at ez
  · cases ez
    exact op_add pins s σ H x y v u Q I rx ry ⟨_, _, int_rep r1, int_rep r2, fin_int st q⟩
  · cases ez
    exact op_sub pins s σ H x y v u Q I rx ry ⟨_, _, int_rep r1, int_rep r2, fin_int st q⟩
  · split at ez
    · rename_i hc
      cases ez
      exact op_mul pins s σ H x y v u Q I rx ry ⟨_, _, int_rep r1, int_rep r2, fits_mul hc, fin_int st q⟩
    · cases ez
  · split at ez
    · rename_i hc
      cases ez
      simp only [Bool.and_eq_true, decide_eq_true_eq] at hc
      exact op_fdiv pins s σ H x y v u Q I rx ry ⟨_, _, int_rep r1, int_rep r2, hc, fin_int st q⟩
    · cases ez
  · split at ez
    · rename_i hc
      cases ez
      simp only [decide_eq_true_eq] at hc
      exact op_mod pins s σ H x y v u Q I rx ry ⟨_, _, int_rep r1, int_rep r2, hc, fin_int st q⟩
    · cases ez
  · split at ez
    · rename_i hc
      cases ez
      simp only [Bool.and_eq_true, decide_eq_true_eq] at hc
      exact op_pow pins s σ H x y v u Q I rx ry ⟨_, _, int_rep r1, int_rep r2, ⟨hc.1.1, hc.1.2, hc.2⟩, fin_int st q⟩
    · cases ez
  · split at ez
    · rename_i l k _ _ e1 e2
      split at ez
      · rename_i hc
        cases ez
        simp only [decide_eq_true_eq] at hc
        obtain ⟨a, xs, rfl, hF, hH, hl⟩ := tup_rep st r1 e1
        obtain ⟨b, ys, rfl, hF2, hH2, hl2⟩ := tup_rep st r2 e2
        rw [← hK] at hH hH2
        refine op_catA pins s σ H _ _ v u Q I rx ry ⟨a, b, xs, ys, rfl, rfl, hH, hH2, sz_line (by rw [hl.length, hl2.length]; exact hc), fun e => ?_, fun _ e => ?_, fun _ _ => fin_newT st (hl.append hl2) q⟩
        · subst e
          cases hl
          exact fin_old st (.tup hF2 hl2) q
        · subst e
          cases hl2
          rw [List.append_nil] at q
          exact fin_old st (.tup hF hl) q
      · cases ez
    · rename_i l k e1 e2 _
      split at ez
      · rename_i hc
        cases ez
        simp only [decide_eq_true_eq] at hc
        obtain ⟨a, xs, rfl, hH, hl⟩ := lst_rep st r1 e1
        obtain ⟨b, ys, rfl, hH2, hl2⟩ := lst_rep st r2 e2
        exact op_cat pins s σ H _ _ v u Q I rx ry ⟨a, b, xs, ys, rfl, rfl, hH, hH2, sz_line (by rw [hl.length, hl2.length]; exact hc), fin_newL st (hl.append hl2) q⟩
      · cases ez
    · cases ez
  · split at ez
    · rename_i l _ e1
      split at ez
      · rename_i hc
        cases ez
        simp only [Bool.and_eq_true, decide_eq_true_eq, Bool.not_eq_true', List.isEmpty_eq_false_iff] at hc
        obtain ⟨a, xs, rfl, hF, hH, hl⟩ := tup_rep st r1 e1
        rw [← hK] at hH
        have hlen := hl.length
        refine op_repT pins s σ H _ _ v u Q I rx ry ⟨a, _, xs, rfl, int_rep r2, hH, fun e => ?_, hc.1.1.1, hc.1.1.2, by rw [hlen]; exact hc.1.2, fin_newT st (repl_rep hl _) q⟩
        subst e
        cases hl
        exact hc.2 rfl
      · cases ez
    · rename_i l e0 e1
      split at ez
      · rename_i hc
        cases ez
        simp only [Bool.and_eq_true, decide_eq_true_eq] at hc
        obtain ⟨a, xs, rfl, hH, hl⟩ := lst_rep st r1 e1
        have hlen := hl.length
        exact op_rep pins s σ H _ _ v u Q I rx ry ⟨a, _, xs, rfl, int_rep r2, hH, by omega, by omega, sz_line (by rw [hlen]; exact hc.2), fin_newL st (repl_rep hl _) q⟩
      · cases ez
    · cases ez
  · cases ez
theorem neg_ok : UnR X (unaryOp .USub) (RM1 W negM) := by
  intro pins s σ H x v Q I rx h
  obtain ⟨F, A1, m1, st, r1, z, ez, q⟩ := h
  unfold negM at ez
  split at ez
  · cases ez
    exact un_neg pins s σ H x v Q I rx ⟨_, int_rep r1, fin_int st q⟩
  · cases ez
end
/-! ### data as the library has them -/
mutual
def py : D → PyData
  | .non => .none
  | .bl b => .bool b
  | .int i => .int i
  | .str s => .str s
  | .tup l => .tuple (pys l)
  | .lst l => .list (pys l)
  | _ => .none
def pys : List D → List PyData
  | [] => []
  | d :: ds => py d :: pys ds
end
mutual
theorem pl_canLay : ∀ (d : D) (n : Nat), pl n d = true → (py d).canLay0 = true ∧ (py d).depth ≤ n
  | .non, n, _ => by simp [py, PyData.canLay0, PyData.depth]
  | .bl b, n, _ => by simp [py, PyData.canLay0, PyData.depth]
  | .int i, n, _ => by simp [py, PyData.canLay0, PyData.depth]
  | .str x, n, h => by
    have h' : PyData.strOk x = true := by cases n <;> exact h
    simp [py, PyData.canLay0, PyData.depth, h']
  | .tup l, n + 1, h => by
    obtain ⟨h1, h2⟩ := pls_canLay l n (by simpa [pl] using h)
    simp only [py, PyData.canLay0, PyData.depth]
    exact ⟨h1, by omega⟩
  | .lst l, n + 1, h => by
    obtain ⟨h1, h2⟩ := pls_canLay l n (by simpa [pl] using h)
    simp only [py, PyData.canLay0, PyData.depth]
    exact ⟨h1, by omega⟩
  | .tup l, 0, h => by simp at h
  | .lst l, 0, h => by simp at h
  | .dct _, _, h => by simp at h
  | .scr _, _, h => by simp at h
  | .draw, _, h => by simp at h
  | .fn _, _, h => by simp at h
  | .cls _, _, h => by simp at h
  | .exc _ _, _, h => by simp at h
  | .clo _, _, h => by simp at h
theorem pls_canLay : ∀ (l : List D) (n : Nat), pls n l = true → PyData.canLayAll0 (pys l) = true ∧ PyData.depthAll (pys l) ≤ n
  | [], n, _ => by simp [pys, PyData.canLayAll0, PyData.depthAll]
  | d :: ds, n, h => by
    have h' : pl n d = true ∧ pls n ds = true := by simpa [pls] using h
    obtain ⟨h1, h2⟩ := pl_canLay d n h'.1
    obtain ⟨h3, h4⟩ := pls_canLay ds n h'.2
    simp only [pys, PyData.canLayAll0, PyData.depthAll, h1, h3, Bool.and_self, true_and]
    omega
end
theorem pl_shaped {d : D} {n : Nat} (h : pl n d = true) (hn : n ≤ 64) : SeqAt.shaped (py d) = true := by
  obtain ⟨h1, h2⟩ := pl_canLay d n h
  unfold SeqAt.shaped
  rw [h1, decide_eq_true (by omega)]
  rfl
mutual
theorem pl_dp {K : PySem.W.Frag} {W : Wd} {H : Hp} (hK : K = W.K) : ∀ (d : D) (n : Nat) (v : V), pl n d = true → Rep W H v d → Dp K H v (py d)
  | .non, _, _, _, h => by cases h; exact .non
  | .bl b, _, _, _, h => by cases h; exact .bl b
  | .int i, _, _, _, h => by cases h; exact .int i
  | .str x, _, _, _, h => by cases h; exact .str x
  | .tup l, n + 1, _, e, h => by
    cases h with
    | tup h1 h2 => rw [← hK] at h1; exact .tup h1 (pls_dp hK l n _ (by simpa [pl] using e) h2)
  | .lst l, n + 1, _, e, h => by
    cases h with
    | lst h1 h2 => exact .lst (sqL_of h1) (pls_dp hK l n _ (by simpa [pl] using e) h2)
  | .tup l, 0, _, h, _ => by simp at h
  | .lst l, 0, _, h, _ => by simp at h
  | .dct _, _, _, h, _ => by simp at h
  | .scr _, _, _, h, _ => by simp at h
  | .draw, _, _, h, _ => by simp at h
  | .fn _, _, _, h, _ => by simp at h
  | .cls _, _, _, h, _ => by simp at h
  | .exc _ _, _, _, h, _ => by simp at h
  | .clo _, _, _, h, _ => by simp at h
theorem pls_dp {K : PySem.W.Frag} {W : Wd} {H : Hp} (hK : K = W.K) : ∀ (l : List D) (n : Nat) (vs : List V), pls n l = true → RepL W H vs l → DpAll K H vs (pys l)
  | [], _, _, _, h => by cases h; exact .nil
  | d :: ds, n, _, e, h => by
    have e' : pl n d = true ∧ pls n ds = true := by simpa [pls] using e
    cases h with
    | cons h1 h2 => exact .cons (pl_dp hK d n _ e'.1 h1) (pls_dp hK ds n _ e'.2 h2)
end
mutual
theorem eqv_deq : ∀ (a b : D) (n m : Nat), pl n a = true → pl m b = true → PyData.eqv (py a) (py b) = deq a b
  | a, b, n, m, ha, hb => by
    cases a <;> cases b <;> first
      | (simp at ha; done)
      | (simp at hb; done)
      | (simp only [py, PyData.eqv, deq]; done)
      | skip
    · rename_i xs ys
      cases n with
      | zero => simp [pl] at ha
      | succ n =>
        cases m with
        | zero => simp [pl] at hb
        | succ m =>
          simp only [py, PyData.eqv, deq]
          exact eqv_deqs xs ys n m (by simpa [pl] using ha) (by simpa [pl] using hb)
    · rename_i xs ys
      cases n with
      | zero => simp [pl] at ha
      | succ n =>
        cases m with
        | zero => simp [pl] at hb
        | succ m =>
          simp only [py, PyData.eqv, deq]
          exact eqv_deqs xs ys n m (by simpa [pl] using ha) (by simpa [pl] using hb)
theorem eqv_deqs : ∀ (a b : List D) (n m : Nat), pls n a = true → pls m b = true → PyData.eqvAll (pys a) (pys b) = deqs a b
  | [], [], _, _, _, _ => by simp only [pys, PyData.eqvAll, deqs]
  | [], _ :: _, _, _, _, _ => by simp only [pys, PyData.eqvAll, deqs]
  | _ :: _, [], _, _, _, _ => by simp only [pys, PyData.eqvAll, deqs]
  | a :: as, b :: bs, n, m, ha, hb => by
    have ha' : pl n a = true ∧ pls n as = true := by simpa [pls] using ha
    have hb' : pl m b = true ∧ pls m bs = true := by simpa [pls] using hb
    simp only [pys, PyData.eqvAll, deqs, eqv_deq a b n m ha'.1 hb'.1, eqv_deqs as bs n m ha'.2 hb'.2]
end
end Bx
/-! Bx6: comparisons, tests -/
namespace Bx
open PySem PySem.Spec L2
def Cop.py : Cop → CmpOp
  | .eq => .Eq | .ne => .NotEq | .lt => .Lt | .le => .LtE | .gt => .Gt | .ge => .GtE
  | .isN => .Is | .notN => .IsNot | .isT => .Is | .isF => .Is | .notT => .IsNot | .notF => .IsNot | .mem => .In | .nmem => .NotIn
section
variable {X : Cx} {W : Wd} {A : List Addr} {v x y : V} {m : M} {F H : Hp} {d : D}
theorem isnon_rep (h : Rep W F v d) : decide (v = .non) = isnon d := by
  cases h <;> simp [isnon]
theorem flat_rep (h : Rep W F v d) (p : pl 0 d = true) : flatV v = true ∧ ∀ {w : V} {e : D}, Rep W F w e → pl 0 e = true → eqV v w = deq d e := by
  cases h <;> first
    | (simp at p; done)
    | (refine ⟨rfl, fun {w e} h' p' => ?_⟩
       cases h' <;> first
         | (simp at p'; done)
         | (simp only [eqV, deq]; done))
theorem flats_rep : ∀ {vs : List V} {ds : List D}, RepL W F vs ds → pls 0 ds = true → vs.all flatV = true ∧ ∀ {w : V} {e : D}, Rep W F w e → pl 0 e = true → inV w vs = ds.any fun z => deq z e
  | _, _, .nil, _ => ⟨rfl, fun _ _ => rfl⟩
  | _, _, .cons (d := d) (ds := ds) a b, p => by
    have p' : pl 0 d = true ∧ pls 0 ds = true := by simpa [pls] using p
    obtain ⟨h1, h2⟩ := flat_rep a p'.1
    obtain ⟨h3, h4⟩ := flats_rep b p'.2
    refine ⟨by rw [List.all_cons, h1, h3]; rfl, fun {w e} hw pe => ?_⟩
    have := h4 hw pe
    unfold inV at this ⊢
    rw [List.any_cons, List.any_cons, this, h2 hw pe]
theorem any_eqv : ∀ (l : List D) (d : D) (n : Nat), pls n l = true → pl n d = true → ((pys l).any fun z => PyData.eqv z (py d)) = l.any fun z => deq z d
  | [], _, _, _, _ => rfl
  | a :: as, d, n, h, hd => by
    have h' : pl n a = true ∧ pls n as = true := by simpa [pls] using h
    rw [pys, List.any_cons, List.any_cons, any_eqv as d n h'.2 hd, eqv_deq a d n n h'.1 hd]
theorem pls_lst {l : List D} {n : Nat} (h : pls n l = true) : pl (n + 1) (.lst l) = true := h
theorem cmpI_ok {op : CmpOp} {p : Int → Int → Bool} (ho : OpR X (compareOp op) (rI0 fun i j => .bl (p i j))) : OpR X (compareOp op) (RM2 W (cmpI p)) := by
  intro pins s σ H x y v u Q I rx ry h
  obtain ⟨F, A1, A2, m1, m2, st, r1, r2, z, ez, q⟩ := h
  unfold cmpI at ez
  split at ez
  · cases ez
    exact ho pins s σ H x y v u Q I rx ry ⟨_, _, int_rep r1, int_rep r2, fin_bl st q⟩
  · cases ez
theorem cmp_ok (hK : X.K = W.K) (hu : X.A.units + 65 < cLine) (o : Cop) : OpR X (compareOp o.py) (RM2 W (cmpM o)) := by
  intro pins s σ H x y v u Q I rx ry h
  obtain ⟨F, A1, A2, m1, m2, st, r1, r2, z, ez, q⟩ := h
  have hr1 := r1.rep st.fh
  have hr2 := r2.rep st.fh
  unfold cmpM at ez
  split at ez
  · cases ez
    cases r1 with
    | fz r1 => cases r1; cases r2 with
      | fz r2 => cases r2; exact op_eq pins s σ H _ _ v u Q I rx ry ⟨rfl, by rw [show (decide (V.str _ = V.str _)) = decide _ from decide_eq_decide.mpr ⟨fun e => V.str.inj e, fun e => by rw [e]⟩]; exact fin_bl st q⟩
  · cases ez
    cases r1 with
    | fz r1 => cases r1; cases r2 with
      | fz r2 => cases r2; exact op_ne pins s σ H _ _ v u Q I rx ry ⟨rfl, by rw [show (decide (V.str _ = V.str _)) = decide _ from decide_eq_decide.mpr ⟨fun e => V.str.inj e, fun e => by rw [e]⟩]; exact fin_bl st q⟩
  · split at ez
    · rename_i hc
      cases ez
      simp only [Bool.and_eq_true] at hc
      exact op_eqD (by omega) pins s σ H x y v u Q I rx ry ⟨_, _, pl_dp hK _ _ _ hc.1 hr1, pl_dp hK _ _ _ hc.2 hr2, pl_shaped hc.1 (by omega), pl_shaped hc.2 (by omega), by rw [eqv_deq _ _ _ _ hc.1 hc.2]; exact fin_bl st q⟩
    · cases ez
  · split at ez
    · rename_i hc
      cases ez
      simp only [Bool.and_eq_true] at hc
      exact op_neD (by omega) pins s σ H x y v u Q I rx ry ⟨_, _, pl_dp hK _ _ _ hc.1 hr1, pl_dp hK _ _ _ hc.2 hr2, pl_shaped hc.1 (by omega), pl_shaped hc.2 (by omega), by rw [eqv_deq _ _ _ _ hc.1 hc.2]; exact fin_bl st q⟩
    · cases ez
  · exact cmpI_ok op_lt pins s σ H x y v u Q I rx ry ⟨F, A1, A2, m1, m2, st, r1, r2, z, ez, q⟩
  · exact cmpI_ok op_le pins s σ H x y v u Q I rx ry ⟨F, A1, A2, m1, m2, st, r1, r2, z, ez, q⟩
  · exact cmpI_ok op_gt pins s σ H x y v u Q I rx ry ⟨F, A1, A2, m1, m2, st, r1, r2, z, ez, q⟩
  · exact cmpI_ok op_ge pins s σ H x y v u Q I rx ry ⟨F, A1, A2, m1, m2, st, r1, r2, z, ez, q⟩
  · cases ez
    exact op_isN pins s σ H x y v u Q I rx ry ⟨non_rep r2, by rw [isnon_rep hr1]; exact fin_bl st q⟩
  · cases ez
    exact op_notN pins s σ H x y v u Q I rx ry ⟨non_rep r2, by rw [isnon_rep hr1]; exact fin_bl st q⟩
  · split at ez
    · rename_i l _ e1
      split at ez
      · rename_i hc
        cases ez
        simp only [Bool.and_eq_true] at hc
        obtain ⟨a, xs, rfl, hH, hl⟩ := lst_rep st r2 e1
        have hp := pls_lst hc.2
        refine op_inD hu pins s σ H _ _ v u Q I rx ry ⟨_, _, pl_dp hK _ _ _ hc.1 hr1, .lst (sqL_of hH) (pls_dp hK _ _ _ hc.2 (hl.mono st.fh)), pl_shaped hc.1 (by omega), pl_shaped hp (by omega), ?_⟩
        rw [any_eqv _ _ _ hc.2 hc.1]
        exact fin_bl st q
      · cases ez
    · rename_i l e0 e1
      split at ez
      · rename_i hc
        cases ez
        simp only [Bool.and_eq_true] at hc
        obtain ⟨a, xs, rfl, hF, hH, hl⟩ := tup_rep st r2 e1
        obtain ⟨h3, h4⟩ := flats_rep (hl.mono st.fh) hc.2
        rw [← hK] at hH
        exact op_in_seq pins s σ H _ _ v u Q I rx ry ⟨a, xs, rfl, .inr hH, (flat_rep hr1 hc.1).1, h3, by rw [h4 hr1 hc.1]; exact fin_bl st q⟩
      · cases ez
    · cases ez
  · split at ez
    · rename_i l _ e1
      split at ez
      · rename_i hc
        cases ez
        simp only [Bool.and_eq_true] at hc
        obtain ⟨a, xs, rfl, hH, hl⟩ := lst_rep st r2 e1
        have hp := pls_lst hc.2
        refine op_notInD hu pins s σ H _ _ v u Q I rx ry ⟨_, _, pl_dp hK _ _ _ hc.1 hr1, .lst (sqL_of hH) (pls_dp hK _ _ _ hc.2 (hl.mono st.fh)), pl_shaped hc.1 (by omega), pl_shaped hp (by omega), ?_⟩
        rw [any_eqv _ _ _ hc.2 hc.1]
        exact fin_bl st q
      · cases ez
    · rename_i l e0 e1
      split at ez
      · rename_i hc
        cases ez
        simp only [Bool.and_eq_true] at hc
        obtain ⟨a, xs, rfl, hF, hH, hl⟩ := tup_rep st r2 e1
        obtain ⟨h3, h4⟩ := flats_rep (hl.mono st.fh) hc.2
        rw [← hK] at hH
        exact op_notIn_seq pins s σ H _ _ v u Q I rx ry ⟨a, xs, rfl, .inr hH, (flat_rep hr1 hc.1).1, h3, by rw [h4 hr1 hc.1]; exact fin_bl st q⟩
      · cases ez
    · cases ez
  · cases ez
end
end Bx
/-! Bx7: tests, displays, places, cuts, built-in functions -/
namespace Bx
open PySem PySem.Spec L2
section
variable {X : Cx} {W : Wd} {Wx : WX} {F H : Hp} {A : List Addr} {ρ : En} {σ : St} {pk : Bool} {a b c : Expr} {pos : Pos} {ra rb rc : En → R M} {ta tb : En → R Bool}
theorem px_chain {op op' : CmpOp} {f f' : M → M → R M} (ho : OpR X (compareOp op) (RM2 W f)) (ho' : OpR X (compareOp op') (RM2 W f')) (hi : ∀ x y, isRet (f x y) = true) (hi' : ∀ x y, isRet (f' x y) = true)
    (ha : PE X a (XT W Wx true ra)) (hb : PE X b (XT W Wx true rb)) (hc : PE X c (XT W Wx true rc)) (hm : lastMarks [op, op'] [b, c] = false) :
    PE X (.Compare a [op, op'] [b, c] pos) (XT W Wx pk fun ρ => do
      let x ← ra ρ
      let y ← rb ρ
      let t ← f x y
      goM t (do
        let z ← rc ρ
        f' y z)) := by
  refine pe_imp (pe_chain ho ho' ha hb hc hm) fun σ H Q h => ?_
  obtain ⟨F, A, ρ, G, h⟩ := h
  refine XT.use G h fun m v F1 H1 A1 g1 r1 o1 h1 => ?_
  refine XT.use (G.grow g1) h1 fun m2 v2 F2 H2 A2 g2 r2 o2 h2 => ?_
  obtain ⟨t, et, h2⟩ := isRet_wp (hi m m2) (R.wp_bind.mp h2)
  refine ⟨F2, A1, A2, m, m2, g2.st, r1.grow g2, r2, t, et, fun tv F3 H3 A3 g3 r3 _ _ => ?_⟩
  unfold goM at h2
  split at h2
  · have e := bl_rep r3
    subst e
    refine ⟨true, rfl, ?_⟩
    rw [if_pos rfl]
    have h3 := R.wp_mono (fun _ q => q) (fun _ (q : EW W Wx F2 H2 σ _) => q.grow g3) h2
    refine XT.use ((G.grow g1).grow (g2.trans g3)) h3 fun m4 v4 F4 H4 A4 g4 r4 o4 h4 => ?_
    obtain ⟨z, ez, q⟩ := isRet_wp (hi' m2 m4) h4
    exact ⟨F4, A2, A4, m2, m4, g4.st, (r2.grow g3).grow g4, r4, z, ez, fun v F' H' A' g r nw nd => q v F' H' A' (((g1.trans g2).trans (g3.trans g4)).trans g) r (Own.of_new (fun a ha => ((g1.trans g2).trans (g3.trans g4)).free (nw a ha)) nd)⟩
  · have e := bl_rep r3
    subst e
    refine ⟨false, rfl, ?_⟩
    rw [if_neg Bool.false_ne_true]
    exact h2 _ F3 H3 [] ((g1.trans g2).trans g3) (.fz (.bl _)) .nil
  · exact h2.elim
/-! ### and, or, not as values -/
theorem px_one {op : BoolOp} (ha : PE X a (XT W Wx true ra)) : PE X (.BoolOp op [a] pos) (XT W Wx pk fun ρ => do
      let x ← ra ρ
      asB x) := by
  refine pe_imp (pe_one (op := op) ha) fun σ H Q h => ?_
  obtain ⟨F, A, ρ, G, h⟩ := h
  refine XT.use G h fun m v F1 H1 A1 g1 r1 o1 h1 => ?_
  unfold asB at h1
  split at h1
  · have e := bl_rep r1
    subst e
    exact h1 _ F1 H1 [] g1 (.fz (.bl _)) .nil
  · exact h1.elim
theorem px_and {rest : List Expr} {e1 : Expr} (ha : PE X a (XT W Wx true ra)) (hb : PE X (.BoolOp .And (e1 :: rest) pos) (XT W Wx true rb)) : PE X (.BoolOp .And (a :: e1 :: rest) pos) (XT W Wx pk fun ρ => do
      let x ← ra ρ
      goM x (do
        let y ← rb ρ
        asB y)) := by
  refine pe_imp (pe_and ha hb) fun σ H Q h => ?_
  obtain ⟨F, A, ρ, G, h⟩ := h
  refine XT.use G h fun m v F1 H1 A1 g1 r1 o1 h1 => ?_
  unfold goM at h1
  split at h1
  · have e := bl_rep r1
    subst e
    refine ⟨true, rfl, ?_⟩
    rw [if_pos rfl]
    refine XT.use (G.grow g1) h1 fun m2 v2 F2 H2 A2 g2 r2 o2 h2 => ?_
    unfold asB at h2
    split at h2
    · have e := bl_rep r2
      subst e
      exact h2 _ F2 H2 [] (g1.trans g2) (.fz (.bl _)) .nil
    · exact h2.elim
  · have e := bl_rep r1
    subst e
    refine ⟨false, rfl, ?_⟩
    rw [if_neg Bool.false_ne_true]
    exact h1 _ F1 H1 [] g1 (.fz (.bl _)) .nil
  · exact h1.elim
theorem px_or {rest : List Expr} {e1 : Expr} (ha : PE X a (XT W Wx true ra)) (hb : PE X (.BoolOp .Or (e1 :: rest) pos) (XT W Wx true rb)) : PE X (.BoolOp .Or (a :: e1 :: rest) pos) (XT W Wx pk fun ρ => do
      let x ← ra ρ
      orM x (do
        let y ← rb ρ
        asB y)) := by
  refine pe_imp (pe_or ha hb) fun σ H Q h => ?_
  obtain ⟨F, A, ρ, G, h⟩ := h
  refine XT.use G h fun m v F1 H1 A1 g1 r1 o1 h1 => ?_
  unfold orM at h1
  split at h1
  · have e := bl_rep r1
    subst e
    refine ⟨true, rfl, ?_⟩
    rw [if_pos rfl]
    exact h1 _ F1 H1 [] g1 (.fz (.bl _)) .nil
  · have e := bl_rep r1
    subst e
    refine ⟨false, rfl, ?_⟩
    rw [if_neg Bool.false_ne_true]
    refine XT.use (G.grow g1) h1 fun m2 v2 F2 H2 A2 g2 r2 o2 h2 => ?_
    unfold asB at h2
    split at h2
    · have e := bl_rep r2
      subst e
      exact h2 _ F2 H2 [] (g1.trans g2) (.fz (.bl _)) .nil
    · exact h2.elim
  · exact h1.elim
theorem px_not (ha : PE X a (XT W Wx true ra)) : PE X (.UnaryOp .Not a pos) (XT W Wx pk fun ρ => do
      let x ← ra ρ
      notM x) := by
  refine pe_imp (pe_not ha) fun σ H Q h => ?_
  obtain ⟨F, A, ρ, G, h⟩ := h
  refine XT.use G h fun m v F1 H1 A1 g1 r1 o1 h1 => ?_
  unfold notM at h1
  split at h1
  · have e := bl_rep r1
    subst e
    exact ⟨_, rfl, h1 _ F1 H1 [] g1 (.fz (.bl _)) .nil⟩
  · exact h1.elim
/-! ### tests -/
theorem px_ite (hc : PT X c (XTt W Wx ta)) (ha : PE X a (XT W Wx pk ra)) (hb : PE X b (XT W Wx pk rb)) : PE X (.IfExp c a b pos) (XT W Wx pk fun ρ => do
      let t ← ta ρ
      if t then ra ρ else rb ρ) := by
  refine pe_imp (pe_ifExp hc ha hb) fun σ H Q h => ?_
  obtain ⟨F, A, ρ, G, h⟩ := h
  refine XTt.use G h fun t F1 H1 g1 h1 => ?_
  cases t with
  | true =>
    rw [if_pos rfl] at h1 ⊢
    exact ⟨F1, A, ρ, G.grow g1, R.wp_mono (fun m q v F' H' A' g r o => q v F' H' A' (g1.trans g) r (o.back g1)) (fun _ q => q) h1⟩
  | false =>
    rw [if_neg Bool.false_ne_true] at h1 ⊢
    exact ⟨F1, A, ρ, G.grow g1, R.wp_mono (fun m q v F' H' A' g r o => q v F' H' A' (g1.trans g) r (o.back g1)) (fun _ q => q) h1⟩
theorem tru_rep (s : St0 W F H) (hK : X.K = W.K) {v : V} {m : M} {k : Bool} (r : RepM W F H A v m) (h : truM m = .ret k) : TruV X.K v H k := by
  unfold truM at h
  split at h
  · cases h; rw [bl_rep r]; rfl
  · cases h; rw [int_rep r]; rfl
  · cases h; rw [non_rep r]; rfl
  · cases h
    obtain ⟨a, xs, rfl, _, hH, hl⟩ := tup_rep s r (l := _) rfl
    rw [hK]
    have := hl.length
    exact .inr (.inl ⟨xs, hH, by cases hl <;> rfl⟩)
  · cases h
    obtain ⟨a, xs, rfl, hH, hl⟩ := lst_rep s r (l := _) rfl
    exact .inl ⟨xs, sqL_of hH, by cases hl <;> rfl⟩
  · cases h
    cases r with
    | ol h1 h2 h3 h4 => exact .inl ⟨_, sqL_of h1, by cases h4 <;> rfl⟩
  · cases h
theorem truM_ret (m : M) : isRet (truM m) = true := by
  unfold truM
  split <;> rfl
theorem pt_val_x (hK : X.K = W.K) (ha : PE X a (XT W Wx true ra)) (he : ∀ whole, isTrue a X.env whole = (do let v ← whole; standAt a.pos; holding [v] (truthy v))) : PT X a (XTt W Wx fun ρ => do
      let m ← ra ρ
      truM m) := by
  refine pt_imp (pt_truth ha he) fun σ H Q h => ?_
  obtain ⟨F, A, ρ, G, h⟩ := h
  refine XT.use G h fun m v F1 H1 A1 g1 r1 o1 h1 => ?_
  obtain ⟨k, ek, q⟩ := isRet_wp (truM_ret m) h1
  exact ⟨k, tru_rep g1.st hK r1 ek, q F1 H1 g1⟩
theorem pt_cmp_x {op : CmpOp} {f : M → M → R M} (hK : X.K = W.K) (ho : OpR X (compareOp op) (RM2 W f)) (hi : ∀ x y, isRet (f x y) = true) (hb2 : ∀ x y m, f x y = .ret m → ∃ k, m = .fz (.bl k)) (ha : PE X a (XT W Wx true ra)) (hb : PE X b (XT W Wx true rb)) (hm : behindInMarks op b = false) :
    PT X (.Compare a [op] [b] pos) (XTt W Wx fun ρ => do
      let m ← (do
        let x ← ra ρ
        let y ← rb ρ
        f x y)
      truM m) := by
  refine pt_imp (pt_cmpR ho ha hb hm) fun σ H Q h => ?_
  obtain ⟨F, A, ρ, G, h⟩ := h
  simp only [R.bind_assoc] at h
  refine XT.use G h fun m v F1 H1 A1 g1 r1 o1 h1 => ?_
  refine XT.use (G.grow g1) h1 fun m2 v2 F2 H2 A2 g2 r2 o2 h2 => ?_
  obtain ⟨z, ez, h2⟩ := isRet_wp (hi m m2) (R.wp_bind.mp h2)
  obtain ⟨k, rfl⟩ := hb2 _ _ _ ez
  exact ⟨F2, A1, A2, m, m2, g2.st, r1.grow g2, r2, _, ez, fun v F' H' A' g r nw nd => ⟨k, bl_rep r, h2 F' H' ((g1.trans g2).trans g)⟩⟩
theorem goM_bl {r : R M} (hr : ∃ k : Bool, True) {x : M} : True := trivial
theorem pt_chain_x {op op' : CmpOp} {f f' : M → M → R M} (ho : OpR X (compareOp op) (RM2 W f)) (ho' : OpR X (compareOp op') (RM2 W f')) (hi : ∀ x y, isRet (f x y) = true) (hi' : ∀ x y, isRet (f' x y) = true)
    (hb2 : ∀ x y m, f' x y = .ret m → ∃ k, m = .fz (.bl k)) (ha : PE X a (XT W Wx true ra)) (hb : PE X b (XT W Wx true rb)) (hc : PE X c (XT W Wx true rc)) (hm : lastMarks [op, op'] [b, c] = false) :
    PT X (.Compare a [op, op'] [b, c] pos) (XTt W Wx fun ρ => do
      let m ← (do
        let x ← ra ρ
        let y ← rb ρ
        let t ← f x y
        goM t (do
          let z ← rc ρ
          f' y z))
      truM m) := by
  refine pt_imp (pt_chain ho ho' ha hb hc hm) fun σ H Q h => ?_
  obtain ⟨F, A, ρ, G, h⟩ := h
  simp only [R.bind_assoc] at h
  refine XT.use G h fun m v F1 H1 A1 g1 r1 o1 h1 => ?_
  refine XT.use (G.grow g1) h1 fun m2 v2 F2 H2 A2 g2 r2 o2 h2 => ?_
  obtain ⟨t, et, h2⟩ := isRet_wp (hi m m2) (R.wp_bind.mp h2)
  refine ⟨F2, A1, A2, m, m2, g2.st, r1.grow g2, r2, t, et, fun tv F3 H3 A3 g3 r3 _ _ => ?_⟩
  unfold goM at h2
  split at h2
  · have e := bl_rep r3
    subst e
    refine ⟨true, rfl, ?_⟩
    rw [if_pos rfl]
    have h3 := R.wp_mono (fun _ q => q) (fun _ (q : EW W Wx F2 H2 σ _) => q.grow g3) h2
    rw [R.bind_assoc] at h3
    refine XT.use ((G.grow g1).grow (g2.trans g3)) h3 fun m4 v4 F4 H4 A4 g4 r4 o4 h4 => ?_
    obtain ⟨z, ez, h4⟩ := isRet_wp (hi' m2 m4) (R.wp_bind.mp h4)
    obtain ⟨k, rfl⟩ := hb2 _ _ _ ez
    exact ⟨F4, A2, A4, m2, m4, g4.st, (r2.grow g3).grow g4, r4, _, ez, fun v F' H' A' g r nw nd => ⟨k, bl_rep r, h4 F' H' (((g1.trans g2).trans (g3.trans g4)).trans g)⟩⟩
  · have e := bl_rep r3
    subst e
    refine ⟨false, rfl, ?_⟩
    rw [if_neg Bool.false_ne_true]
    exact ⟨false, rfl, h2 F3 H3 ((g1.trans g2).trans g3)⟩
  · exact h2.elim
theorem pw_and1_x (ha : PT X a (XTt W Wx ta)) : PW X (.BoolOp .And [a] pos) (XTt W Wx ta) := pw_and1 ha
theorem pw_or1_x (ha : PT X a (XTt W Wx ta)) : PW X (.BoolOp .Or [a] pos) (XTt W Wx ta) := pw_or1 ha
theorem pw_and_x {rest : List Expr} {e1 : Expr} (ha : PT X a (XTt W Wx ta)) (hb : PW X (.BoolOp .And (e1 :: rest) pos) (XTt W Wx tb)) : PW X (.BoolOp .And (a :: e1 :: rest) pos) (XTt W Wx fun ρ => do
      let t ← ta ρ
      if t then tb ρ else .ret false) := by
  refine pw_imp (pw_and ha hb) fun σ H Q h => ?_
  obtain ⟨F, A, ρ, G, h⟩ := h
  refine XTt.use G h fun t F1 H1 g1 h1 => ?_
  cases t with
  | true =>
    rw [if_pos rfl] at h1 ⊢
    exact ⟨F1, A, ρ, G.grow g1, R.wp_mono (fun m q F' H' g => q F' H' (g1.trans g)) (fun _ q => q) h1⟩
  | false =>
    rw [if_neg Bool.false_ne_true] at h1 ⊢
    exact h1 F1 H1 g1
theorem pw_or_x {rest : List Expr} {e1 : Expr} (ha : PT X a (XTt W Wx ta)) (hb : PW X (.BoolOp .Or (e1 :: rest) pos) (XTt W Wx tb)) : PW X (.BoolOp .Or (a :: e1 :: rest) pos) (XTt W Wx fun ρ => do
      let t ← ta ρ
      if t then .ret true else tb ρ) := by
  refine pw_imp (pw_or ha hb) fun σ H Q h => ?_
  obtain ⟨F, A, ρ, G, h⟩ := h
  refine XTt.use G h fun t F1 H1 g1 h1 => ?_
  cases t with
  | true =>
    rw [if_pos rfl] at h1 ⊢
    exact h1 F1 H1 g1
  | false =>
    rw [if_neg Bool.false_ne_true] at h1 ⊢
    exact ⟨F1, A, ρ, G.grow g1, R.wp_mono (fun m q F' H' g => q F' H' (g1.trans g)) (fun _ q => q) h1⟩
theorem pt_not_x (ha : PT X a (XTt W Wx ta)) : PT X (.UnaryOp .Not a pos) (XTt W Wx fun ρ => do
      let t ← ta ρ
      .ret (!t)) := by
  refine pt_imp (pt_not ha) fun σ H Q h => ?_
  obtain ⟨F, A, ρ, G, h⟩ := h
  exact XTt.use G h fun t F1 H1 g1 h1 => h1 F1 H1 g1
/-! ### items, displays -/
theorem xa_nil : PA X [] (XTa W Wx pk fun _ => .ret []) := by
  refine pa_imp pa_nil fun σ H Q h => ?_
  obtain ⟨F, A, ρ, G, h⟩ := h
  exact h [] F H [] (Grow.refl G.st) .nil .nil
theorem own_app {W : Wd} {pk : Bool} {A A1 A2 : List Addr} {F H F1 H1 : Hp} {v : V} {m : M} (g1 : Grow W F H F1 H1) (r1 : Owns W F1 H1 A1) (o1 : Own pk A H A1) (o2 : Own pk A H1 A2) : Own pk A H (A1 ++ A2) := by
  refine ⟨fun a ha => (List.mem_append.mp ha).elim (o1.1 a) fun z => (o2.back g1).1 a z, fun e => ?_⟩
  refine List.nodup_append.mpr ⟨o1.2 e, o2.2 e, fun a ha b hb z => ?_⟩
  subst z
  subst e
  obtain ⟨o, ho⟩ := (r1 a ha).1
  rw [o2.fresh a hb] at ho
  cases ho
theorem xa_cons {es : List Expr} {rs : En → R (List M)} (ha : PE X a (XT W Wx pk ra)) (hr : PA X es (XTa W Wx pk rs)) (hs : starEach (a :: es) X.env = (false, eval a X.env) :: starEach es X.env) : PA X (a :: es) (XTa W Wx pk fun ρ => do
      let m ← ra ρ
      let ms ← rs ρ
      .ret (m :: ms)) := by
  refine pa_imp (pa_cons ha hr hs) fun σ H Q h => ?_
  obtain ⟨F, A, ρ, G, h⟩ := h
  refine XT.use G h fun m v F1 H1 A1 g1 r1 o1 h1 => ?_
  refine XTa.use (G.grow g1) h1 fun m2 v2 F2 H2 A2 g2 r2 o2 h2 => ?_
  exact h2 _ F2 H2 _ (g1.trans g2) (.cons (r1.grow g2) r2) (own_app (v := v) (m := m) g1 r1.owns o1 o2)
theorem itM_ret (m : M) : isRet (itM m) = true := by
  unfold itM
  split <;> rfl
theorem itM_some {m : M} {l : List D} (h : itM m = .ret l) : seqM m = some l := by
  unfold itM at h
  split at h
  · cases h; assumption
  · cases h
theorem xa_star {es : List Expr} {rs : En → R (List M)} {p : Pos} (hK : X.K = W.K) (ha : PE X a (XT W Wx true ra)) (hr : PA X es (XTa W Wx pk rs)) : PA X (.Starred a p :: es) (XTa W Wx pk fun ρ => do
      let m ← ra ρ
      let l ← itM m
      let ms ← rs ρ
      .ret (l.map .fz ++ ms)) := by
  refine pa_imp (StX.pa_star ha hr (by rfl)) fun σ H Q h => ?_
  obtain ⟨F, A, ρ, G, h⟩ := h
  refine XT.use G h fun m v F1 H1 A1 g1 r1 o1 h1 => ?_
  obtain ⟨l, el, h1⟩ := isRet_wp (itM_ret m) (R.wp_bind.mp h1)
  obtain ⟨a, xs, rfl, hH, hl⟩ := seq_rep g1.st r1 (itM_some el)
  refine ⟨a, xs, rfl, ?_, XTa.use (G.grow g1) h1 fun m2 v2 F2 H2 A2 g2 r2 o2 h2 => ?_⟩
  · rw [hK]
    exact hH.elim (fun z => .inr (sqL_of z)) .inl
  · exact h2 _ F2 H2 A2 (g1.trans g2) ((RepMs.fz (hl.mono g2.ff)).append r2) (o2.back g1)
theorem px_tup {es : List Expr} {k : Nat} {rs : En → R (List M)} (h : PA X es (XTa W Wx false rs)) : PE X (.Tuple es k pos) (XT W Wx pk fun ρ => do
      let ms ← rs ρ
      tupR ms) := by
  refine pe_imp (pe_tup h) fun σ H Q h => ?_
  obtain ⟨F, A, ρ, G, h⟩ := h
  refine XTa.use G h fun ms vs F1 H1 A1 g1 r1 o1 h1 => ?_
  unfold tupR at h1
  split at h1
  · rename_i hc
    simp only [decide_eq_true_eq] at hc
    refine ⟨sz_line (by rw [r1.length]; exact hc), fun p hp => ?_⟩
    have g2 := Grow.frz g1.st g1 r1.owns o1.fresh
    obtain ⟨g3, r3⟩ := newT g2.st (r1.frz' ms) hp
    exact h1 _ _ _ [] (g2.trans g3) r3 .nil
  · exact h1.elim
theorem px_lst {es : List Expr} {rs : En → R (List M)} (h : PA X es (XTa W Wx false rs)) : PE X (.List es pos) (XT W Wx pk fun ρ => do
      let ms ← rs ρ
      lstR ms) := by
  refine pe_imp (pe_lst h) fun σ H Q h => ?_
  obtain ⟨F, A, ρ, G, h⟩ := h
  refine XTa.use G h fun ms vs F1 H1 A1 g1 r1 o1 h1 => ?_
  unfold lstR at h1
  split at h1
  · rename_i hc
    simp only [decide_eq_true_eq] at hc
    refine ⟨sz_line (by rw [r1.length]; exact hc), fun p hp => ?_⟩
    have g2 := Grow.own g1.st (.lst vs) hp
    refine h1 _ _ _ (p :: A1) (g1.trans g2) (.ol upd_same (g1.st.fnone hp) (g1.st.nogh hp) (r1.grow g2)) (Own.of_new (fun a ha => ?_) ?_)
    · rcases List.mem_cons.mp ha with z | z
      · rw [z]; exact g1.free hp
      · exact o1.fresh a z
    · refine List.nodup_cons.mpr ⟨fun z => ?_, o1.2 rfl⟩
      obtain ⟨o, ho⟩ := (r1.owns p z).1
      rw [hp] at ho; cases ho
  · exact h1.elim
/-! ### places, cuts -/
theorem atI_rep {xs : List V} {l : List D} {i : Int} {d : D} (r : RepL W F xs l) (h : atI l i = some d) : ∃ v, atI xs i = some v ∧ Rep W F v d := by
  unfold atI at h ⊢
  rw [r.length]
  cases e : ixN l.length i with
  | none => rw [e] at h; cases h
  | some j =>
    rw [e] at h
    exact r.get' h
theorem RepMs.get' : ∀ {A : List Addr} {vs : List V} {ms : List M} {i : Nat} {m : M}, RepMs W F H A vs ms → ms[i]? = some m → ∃ v Am, vs[i]? = some v ∧ RepM W F H Am v m ∧ ∀ a ∈ Am, a ∈ A
  | _, _, _, _, _, .nil, e => by simp at e
  | _, _, _, 0, _, .cons (A := A) a _, e => by simp at e; subst e; exact ⟨_, A, rfl, a, fun a h => List.mem_append_left _ h⟩
  | _, _, _, i + 1, d, .cons _ b, e => by
    obtain ⟨v, Am, h1, h2, h3⟩ := RepMs.get' (i := i) (m := d) b (by simpa using e)
    exact ⟨v, Am, by simpa using h1, h2, fun a h => List.mem_append_right _ (h3 a h)⟩
theorem idxM_ret (x y : M) : isRet (idxM x y) = true := by
  unfold idxM
  repeat' split
  all_goals rfl
theorem lookM_ret (x : M) : isRet (lookM pk x) = true := by
  unfold lookM
  split <;> rfl
theorem px_idx (hK : X.K = W.K) (ha : PE X a (XT W Wx true ra)) (hb : PE X b (XT W Wx true rb)) (hs : PlainIx b) : PE X (.Subscript a b pos) (XT W Wx pk fun ρ => do
      let x ← ra ρ
      let y ← rb ρ
      let m ← idxM x y
      lookM pk m) := by
  refine pe_imp (pe_ix (ix_list.or ix_tup) ha hb hs) fun σ H Q h => ?_
  obtain ⟨F, A, ρ, G, h⟩ := h
  refine XT.use G h fun m v F1 H1 A1 g1 r1 o1 h1 => ?_
  refine XT.use (G.grow g1) h1 fun m2 v2 F2 H2 A2 g2 r2 o2 h2 => ?_
  obtain ⟨z, ez, h2⟩ := isRet_wp (idxM_ret m m2) (R.wp_bind.mp h2)
  have r1' := r1.grow g2
  unfold idxM at ez
  split at ez
  · rename_i m0 i
    have e2 := int_rep r2
    subst e2
    split at ez
    · split at ez
      · rename_i l _ d hat
        cases ez
        obtain ⟨p, xs, rfl, hF, hH, hl⟩ := tup_rep g2.st r1' (l := l) rfl
        obtain ⟨w, hw, rw'⟩ := atI_rep hl hat
        rw [← hK] at hH
        exact .inr ⟨p, xs, i, w, rfl, rfl, hH, hw, by cases pk <;> exact h2 w F2 H2 [] (g1.trans g2) (.fz rw') .nil⟩
      · cases ez
    · split at ez
      · rename_i l _ d hat
        cases ez
        obtain ⟨p, xs, rfl, hH, hl⟩ := lst_rep g2.st r1' (l := l) rfl
        obtain ⟨w, hw, rw'⟩ := atI_rep hl hat
        exact .inl ⟨p, xs, i, w, rfl, rfl, sqL_of hH, hw, by cases pk <;> exact h2 w F2 H2 [] (g1.trans g2) (.fz rw') .nil⟩
      · cases ez
    · split at ez
      · rename_i l _ d hat
        cases ez
        cases r1' with
        | @ol p As xs ms k1 k2 k3 k4 =>
          have hat' := hat
          unfold atI at hat
          cases e : ixN l.length i with
          | none => rw [e] at hat; cases hat
          | some j =>
            rw [e] at hat
            obtain ⟨w, Am, hw, rw', sub⟩ := k4.get' (show l[j]? = some z from hat)
            have hw' : atI xs i = some w := by
              unfold atI
              rw [k4.length, e]
              exact hw
            refine .inl ⟨p, xs, i, w, rfl, rfl, sqL_of k1, hw', ?_⟩
            have oA : ∀ a ∈ Am, a ∈ A ∨ H a = none := fun a ha => (o1.1 a (List.mem_cons_of_mem _ (sub a ha))).imp And.right id
            cases z with
            | fz d =>
              cases rw' with
              | fz rd => cases pk <;> exact h2 w F2 H2 [] (g1.trans g2) (.fz rd) .nil
            | ol k =>
              cases pk with
              | true => exact h2 w F2 H2 Am (g1.trans g2) rw' ⟨fun a ha => (oA a ha).imp (fun q => ⟨rfl, q⟩) id, fun q => nomatch q⟩
              | false => exact h2.elim
            | od k =>
              cases pk with
              | true => exact h2 w F2 H2 Am (g1.trans g2) rw' ⟨fun a ha => (oA a ha).imp (fun q => ⟨rfl, q⟩) id, fun q => nomatch q⟩
              | false => exact h2.elim
      · cases ez
    · cases ez
  · cases ez
/-- an end of a cut -/
def XTo (W : Wd) (Wx : WX) (r : En → R (Option Int)) : TO := fun σ H Q => ∃ F A ρ, Good W F H A ρ σ ∧
  (r ρ).wp (fun o => ∀ F' H', Grow W F H F' H' → Q o H') (EW W Wx F H σ)
theorem po_imp {e : Option Expr} {t t' : TO} (h : PO X e t) (i : ∀ σ H Q, t' σ H Q → t σ H Q) : PO X e t' := ⟨fun pins s σ H Q I q => h.run pins s σ H Q I (i σ H Q q)⟩
theorem XTo.use {β : Type} {r : En → R (Option Int)} {k : Option Int → R β} {QQ : β → Prop} {P : Option Int → Hp → Prop} (G : Good W F H A ρ σ) (h : (r ρ >>= k).wp QQ (EW W Wx F H σ))
    (next : ∀ m F' H', Grow W F H F' H' → (k m).wp QQ (EW W Wx F' H' σ) → P m H') : XTo W Wx r σ H P :=
  ⟨F, A, ρ, G, R.wp_mono (fun m hm F' H' g => next m F' H' g (R.wp_mono (fun _ q => q) (fun _ q => q.grow g) hm)) (fun _ q => q) (R.wp_bind.mp h)⟩
theorem po_none_x : PO X none (XTo W Wx fun _ => .ret none) := by
  refine po_imp po_none fun σ H Q h => ?_
  obtain ⟨F, A, ρ, G, h⟩ := h
  exact h F H (Grow.refl G.st)
theorem po_some_x (ha : PE X a (XT W Wx true ra)) : PO X (some a) (XTo W Wx fun ρ => do
      let m ← ra ρ
      asI m) := by
  refine po_imp (po_some ha) fun σ H Q h => ?_
  obtain ⟨F, A, ρ, G, h⟩ := h
  refine XT.use G h fun m v F1 H1 A1 g1 r1 o1 h1 => ?_
  unfold asI at h1
  split at h1
  · exact ⟨_, int_rep r1, h1 F1 H1 g1⟩
  · exact h1.elim
theorem slcM_ret (x : M) (lo hi : Option Int) : isRet (slcM x lo hi) = true := by
  unfold slcM
  split <;> rfl
theorem cut_rep {xs : List V} {l : List D} (r : RepL W F xs l) (lo hi : Option Int) : RepL W F (cutV xs lo hi) (cut l lo hi) := by
  unfold cutV cut
  rw [r.length]
  exact (r.drop _).take _
theorem cut_whole {l : List D} {lo hi : Option Int} (h : HT.sIx l.length 0 lo = 0 ∧ HT.sIx l.length l.length hi = l.length) : cut l lo hi = l := by
  unfold cut
  rw [h.1, h.2, List.drop_zero, Nat.sub_zero, List.take_length]
theorem px_slc {lo hi : Option Expr} {rl rh : En → R (Option Int)} {p2 : Pos} (hK : X.K = W.K) (ha : PE X a (XT W Wx true ra)) (hl : PO X lo (XTo W Wx rl)) (hh : PO X hi (XTo W Wx rh)) :
    PE X (.Subscript a (.Slice lo hi none p2) pos) (XT W Wx pk fun ρ => do
      let x ← ra ρ
      let l ← rl ρ
      let h ← rh ρ
      slcM x l h) := by
  refine pe_imp (pe_slice (sl_list.or sl_tupA) ha hl hh) fun σ H Q h => ?_
  obtain ⟨F, A, ρ, G, h⟩ := h
  refine XT.use G h fun m v F1 H1 A1 g1 r1 o1 h1 => ?_
  refine XTo.use (G.grow g1) h1 fun lo F2 H2 g2 h2 => ?_
  refine XTo.use ((G.grow g1).grow g2) h2 fun hi F3 H3 g3 h3 => ?_
  obtain ⟨z, ez, q⟩ := isRet_wp (slcM_ret m lo hi) h3
  have r3 := (r1.grow g2).grow g3
  have gg := (g1.trans g2).trans g3
  have q' : Fin1 W F3 H3 Q z := fun v F' H' A' g r nw nd => q v F' H' A' (gg.trans g) r (Own.of_new (fun a ha => gg.free (nw a ha)) nd)
  unfold slcM at ez
  split at ez
  · rename_i _ l e1
    cases ez
    obtain ⟨p, xs, rfl, hF, hH, hl⟩ := tup_rep g3.st r3 e1
    rw [← hK] at hH
    refine .inr ⟨p, xs, rfl, hH, fun hw => ?_, fun _ => fin_newT g3.st (cut_rep hl lo hi) q'⟩
    rw [hl.length] at hw
    rw [cut_whole hw] at q'
    exact fin_old g3.st (.tup hF hl) q'
  · rename_i l _ e1
    cases ez
    obtain ⟨p, xs, rfl, hH, hl⟩ := lst_rep g3.st r3 e1
    exact .inl ⟨p, xs, rfl, sqL_of hH, fin_newL g3.st (cut_rep hl lo hi) q'⟩
  · cases ez
/-! ### built-in functions -/
/-- arguments that are looked at -/
theorem xp_nil : PA X [] (XTa W Wx true fun _ => .ret []) := xa_nil
/-- a built-in function by values -/
def RMn (W : Wd) (f : List M → R M) : List V → Hp → VK → Prop := fun xs H Q => ∃ F A1 ms, St0 W F H ∧ RepMs W F H A1 xs ms ∧
  ∃ m, f ms = .ret m ∧ ∀ v F' H' A', Grow W F H F' H' → RepM W F' H' A' v m → (∀ a ∈ A', H a = none) → A'.Nodup → Q v H'
theorem px_bltB {es : List Expr} {e1 : Expr} {id : String} {x : Str} {p : Pos} {f : List M → R M} {rs : En → R (List M)} (hc : CallR X (.builtin id) (RMn W f)) (hi : ∀ x, isRet (f x) = true) (hg : Gl X x) (hm : X.mg x = none) (hv : bootBuiltins x = some (.builtin id))
    (ha : PA X (e1 :: es) (XTa W Wx true rs)) (hn : x ≠ "__name__") (hdb : (x == ("__debug__" : Str)) = false) (he : starEach (e1 :: es) X.env = (false, eval e1 X.env) :: starEach es X.env) (hpl : (backTo pos (starEach es X.env)).any (·.1) = false) :
    PE X (.Call (.Name x p) (e1 :: es) [] pos) (XT W Wx pk fun ρ => do
      let ms ← rs ρ
      f ms) := by
  refine pe_imp (pe_callB hc hg hm hv ha hn hdb he hpl) fun σ H Q h => ?_
  obtain ⟨F, A, ρ, G, h⟩ := h
  refine XTa.use G h fun ms vs F1 H1 A1 g1 r1 o1 h1 => ?_
  obtain ⟨z, ez, q⟩ := isRet_wp (hi ms) h1
  exact ⟨F1, A1, ms, g1.st, r1, z, ez, fun v F' H' A' g r nw nd => q v F' H' A' (g1.trans g) r (Own.of_new (fun a ha => g1.free (nw a ha)) nd)⟩
theorem px_bltT {es : List Expr} {e1 : Expr} {T : String} {x : Str} {p : Pos} {f : List M → R M} {rs : En → R (List M)} (hc : CallR X (.type T) (RMn W f)) (hi : ∀ x, isRet (f x) = true) (hg : Gl X x) (hm : X.mg x = none) (hv : bootBuiltins x = some (.type T))
    (ha : PA X (e1 :: es) (XTa W Wx true rs)) (hn : x ≠ "__name__") (hdb : (x == ("__debug__" : Str)) = false) (he : starEach (e1 :: es) X.env = (false, eval e1 X.env) :: starEach es X.env) (hpl : (backTo pos (starEach es X.env)).any (·.1) = false) :
    PE X (.Call (.Name x p) (e1 :: es) [] pos) (XT W Wx pk fun ρ => do
      let ms ← rs ρ
      f ms) := by
  refine pe_imp (pe_callTy hc hg hm hv ha hn hdb he hpl) fun σ H Q h => ?_
  obtain ⟨F, A, ρ, G, h⟩ := h
  refine XTa.use G h fun ms vs F1 H1 A1 g1 r1 o1 h1 => ?_
  obtain ⟨z, ez, q⟩ := isRet_wp (hi ms) h1
  exact ⟨F1, A1, ms, g1.st, r1, z, ez, fun v F' H' A' g r nw nd => q v F' H' A' (g1.trans g) r (Own.of_new (fun a ha => g1.free (nw a ha)) nd)⟩
end
end Bx
/-! Bx8: built-in functions, isinstance, what is walked, targets, comprehensions -/
namespace Bx
open PySem PySem.Spec L2
theorem arg1_ret {f : M → R M} (h : ∀ m, isRet (f m) = true) (l : List M) : isRet (arg1 f l) = true := by
  unfold arg1
  split
  · exact h _
  · rfl
theorem arg2_ret {f : M → M → R M} (h : ∀ m n, isRet (f m n) = true) (l : List M) : isRet (arg2 f l) = true := by
  unfold arg2
  split
  · exact h _ _
  · rfl
theorem bltM_ret (b : Blt) (l : List M) : isRet (bltM b l) = true := by
  unfold bltM
  split <;> first
    | rfl
    | exact arg1_ret (fun m => by first | (unfold lenM; split <;> rfl) | (unfold absM; split <;> rfl) | (unfold intF; split <;> rfl) | (unfold sumM; split <;> rfl) | (unfold allM; split <;> rfl) | (unfold tupleM; split <;> rfl) | (unfold listM; split <;> rfl)) _
    | exact arg2_ret (fun m n => by first | (unfold min2M; split <;> rfl) | (unfold max2M; split <;> rfl)) _
theorem isiM_ret (t : Ty) (m : M) : isRet (isiM t m) = true := by
  unfold isiM
  split <;> rfl
section
variable {X : Cx} {W : Wd} {Wx : WX} {F H : Hp} {A : List Addr} {ρ : En} {σ : St} {pk : Bool} {a b c : Expr} {pos : Pos} {ra rb rc : En → R M}
theorem intsD_eq : ∀ {l : List D} {ns : List Int}, intsD l = some ns → l = ns.map D.int
  | [], ns, h => by cases h; rfl
  | .int i :: ds, ns, h => by
    simp only [intsD] at h
    cases e : intsD ds with
    | none => rw [e] at h; cases h
    | some k => rw [e] at h; cases h; rw [intsD_eq e]; rfl
  | .non :: _, _, h | .bl _ :: _, _, h | .str _ :: _, _, h | .tup _ :: _, _, h | .lst _ :: _, _, h | .dct _ :: _, _, h | .scr _ :: _, _, h | .draw :: _, _, h | .fn _ :: _, _, h | .cls _ :: _, _, h | .exc _ _ :: _, _, h | .clo _ :: _, _, h => by cases h
theorem intsD_map (ns : List Int) : intsD (ns.map D.int) = some ns := by
  induction ns with
  | nil => rfl
  | cons i ns ih => show (intsD (ns.map D.int)).map (i :: ·) = _; rw [ih]; rfl
theorem blsD_eq : ∀ {l : List D} {ns : List Bool}, blsD l = some ns → l = ns.map D.bl
  | [], ns, h => by cases h; rfl
  | .bl i :: ds, ns, h => by
    simp only [blsD] at h
    cases e : blsD ds with
    | none => rw [e] at h; cases h
    | some k => rw [e] at h; cases h; rw [blsD_eq e]; rfl
  | .non :: _, _, h | .int _ :: _, _, h | .str _ :: _, _, h | .tup _ :: _, _, h | .lst _ :: _, _, h | .dct _ :: _, _, h | .scr _ :: _, _, h | .draw :: _, _, h | .fn _ :: _, _, h | .cls _ :: _, _, h | .exc _ _ :: _, _, h | .clo _ :: _, _, h => by cases h
theorem blsD_map (ns : List Bool) : blsD (ns.map D.bl) = some ns := by
  induction ns with
  | nil => rfl
  | cons i ns ih => show (blsD (ns.map D.bl)).map (i :: ·) = _; rw [ih]; rfl
theorem RepL.of_bls : ∀ {vs : List V} {ns : List Bool}, RepL W F vs (ns.map D.bl) → vs = ns.map V.bl
  | _, [], h => by cases h; rfl
  | _, n :: ns, h => by
    cases h with
    | cons a b => cases a; rw [RepL.of_bls b]; rfl
theorem one_rep {A : List Addr} {xs : List V} {m : M} (r : RepMs W F H A xs [m]) : ∃ x Am, xs = [x] ∧ RepM W F H Am x m := by
  cases r with
  | cons a b => cases b; exact ⟨_, _, rfl, a⟩
theorem two_rep {A : List Addr} {xs : List V} {m n : M} (r : RepMs W F H A xs [m, n]) : ∃ x y Am An, xs = [x, y] ∧ RepM W F H Am x m ∧ RepM W F H An y n := by
  cases r with
  | cons a b => cases b with
    | cons b c => cases c; exact ⟨_, _, _, _, rfl, a, b⟩
theorem cr_sumT (hc : X.calm = true) : CallR X (.builtin "sum") (fun vs H Q => ∃ (a : Addr) (ns : List Int), vs = [V.ref a] ∧ SqT X.K H a (ns.map V.int) ∧ Q (.int ns.sum) H) := by
  intro pins s σ H vs us Q I r h
  obtain ⟨a, ns, rfl, hs, q⟩ := h
  obtain ⟨its, rv, hl, _⟩ := I.tuple hs
  rw [Vals.ref1 r]
  have hi := intsAre_of rv
  obtain ⟨xs, e⟩ := hi.allInts.items
  have hn : numsOf (intItems xs).toList = ns := by rw [← e]; exact hi.numsOf
  rw [nums_intItems] at hn
  rw [e] at hl
  refine PySem.W.ktm_sumG (I.ok.hd hc) (show s.heap.IsTuple a (intItems xs) from hl) fun h' tk t' hk => ?_
  rw [preSum_eq, List.take_of_length_le (by simp), hn]
  exact ⟨.int _, H, I.kept hk, ⟨_, rfl⟩, q⟩
theorem args1 {f : M → R M} {r : List V → Hp → VK → Prop} {id : Value} (hc : CallR X id r)
    (h : ∀ (F H : Hp) (A1 : List Addr) (x : V) (m z : M) (Q : VK), St0 W F H → RepM W F H A1 x m → f m = .ret z → Fin1 W F H Q z → r [x] H Q) : CallR X id (RMn W (arg1 f)) := by
  intro pins s σ H xs us Q I rx hh
  obtain ⟨F, A1, ms, st, rr, z, ez, q⟩ := hh
  unfold arg1 at ez
  split at ez
  · obtain ⟨x, Am, rfl, r1⟩ := one_rep rr
    exact hc pins s σ H _ us Q I rx (h F H Am x _ z Q st r1 ez q)
  · cases ez
theorem args2 {f : M → M → R M} {r : List V → Hp → VK → Prop} {id : Value} (hc : CallR X id r)
    (h : ∀ (F H : Hp) (A1 A2 : List Addr) (x y : V) (m n z : M) (Q : VK), St0 W F H → RepM W F H A1 x m → RepM W F H A2 y n → f m n = .ret z → Fin1 W F H Q z → r [x, y] H Q) : CallR X id (RMn W (arg2 f)) := by
  intro pins s σ H xs us Q I rx hh
  obtain ⟨F, A1, ms, st, rr, z, ez, q⟩ := hh
  unfold arg2 at ez
  split at ez
  · obtain ⟨x, y, Am, An, rfl, r1, r2⟩ := two_rep rr
    exact hc pins s σ H _ us Q I rx (h F H Am An x y _ _ z Q st r1 r2 ez q)
  · cases ez
def LenR (K : PySem.W.Frag) : List V → Hp → VK → Prop := fun xs H Q => (∃ p ys, xs = [.ref p] ∧ (SqL K H p ys ∨ SqT K H p ys) ∧ Q (.int ys.length) H) ∨ (∃ a kvs, xs = [V.ref a] ∧ H a = some (.dK kvs) ∧ Q (.int kvs.length) H) ∨ rLenT xs H Q
theorem blt_len (hK : X.K = W.K) : CallR X (.builtin "len") (RMn W (arg1 lenM)) := by
  refine args1 (r := LenR X.K) (call_len_seq.or (call_lenD.or call_len_dT)) fun F H A1 x m z Q st r1 ez q => ?_
  unfold lenM at ez
  split at ez
  · cases ez
    obtain ⟨a, xs, rfl, _, hH, hl⟩ := tup_rep st r1 rfl
    rw [← hK] at hH
    rw [← hl.length] at q
    exact .inl ⟨a, xs, rfl, .inr hH, fin_int st q⟩
  · cases ez
    obtain ⟨a, xs, rfl, hH, hl⟩ := lst_rep st r1 rfl
    rw [← hl.length] at q
    exact .inl ⟨a, xs, rfl, .inl (sqL_of hH), fin_int st q⟩
  · cases ez
    cases r1 with
    | fz r1 => cases r1 with
      | dctK h1 h2 =>
        rw [← h2.length] at q
        exact .inr (.inl ⟨_, _, rfl, st.fh _ _ h1, fin_int st q⟩)
      | dctT h1 h2 =>
        rw [← h2.length] at q
        exact .inr (.inr ⟨_, _, rfl, st.fh _ _ h1, fin_int st q⟩)
  · cases ez
    cases r1 with
    | fz r1 => cases r1 with
      | scr h1 =>
        rename_i ns
        rw [← hK] at h1
        have e : (ns.map V.int).length = ns.length := List.length_map _
        exact .inl ⟨_, _, rfl, .inl (sqL_mono st.fh h1), by rw [e]; exact fin_int st q⟩
  · cases ez
    cases r1 with
    | ol h1 h2 h3 h4 =>
      rw [← h4.length] at q
      exact .inl ⟨_, _, rfl, .inl (sqL_of h1), fin_int st q⟩
  · cases ez
    cases r1 with
    | odK h1 h2 h3 h4 =>
      rw [← h4.length] at q
      exact .inr (.inl ⟨_, _, rfl, h1, fin_int st q⟩)
    | odT h1 h2 h3 h4 =>
      rw [← h4.length] at q
      exact .inr (.inr ⟨_, _, rfl, h1, fin_int st q⟩)
  · cases ez
theorem blt_abs : CallR X (.builtin "abs") (RMn W (arg1 absM)) := by
  refine args1 call_abs fun F H A1 x m z Q st r1 ez q => ?_
  unfold absM at ez
  split at ez <;> cases ez
  exact ⟨_, by rw [int_rep r1], fin_int st q⟩
theorem blt_int : CallR X (.type "int") (RMn W (arg1 intF)) := by
  refine args1 call_int1 fun F H A1 x m z Q st r1 ez q => ?_
  unfold intF at ez
  split at ez <;> cases ez
  exact .inl ⟨_, by rw [int_rep r1], fin_int st q⟩
theorem blt_min2 (hc : X.calm = true) : CallR X (.builtin "min") (RMn W (arg2 min2M)) := by
  refine args2 (call_min2 hc) fun F H A1 A2 x y m n z Q st r1 r2 ez q => ?_
  unfold min2M at ez
  split at ez <;> cases ez
  exact ⟨_, _, by rw [int_rep r1, int_rep r2], fin_int st q⟩
theorem blt_max2 (hc : X.calm = true) : CallR X (.builtin "max") (RMn W (arg2 max2M)) := by
  refine args2 (call_max2 hc) fun F H A1 A2 x y m n z Q st r1 r2 ez q => ?_
  unfold max2M at ez
  split at ez <;> cases ez
  exact ⟨_, _, by rw [int_rep r1, int_rep r2], fin_int st q⟩
theorem blt_sum (hK : X.K = W.K) (hc : X.calm = true) : CallR X (.builtin "sum") (RMn W (arg1 sumM)) := by
  refine args1 ((cr_sum hc).or (cr_sumT hc)) fun F H A1 x m z Q st r1 ez q => ?_
  unfold sumM at ez
  split at ez
  · rename_i ns e
    cases ez
    cases e1 : seqM m with
    | none => rw [e1] at e; cases e
    | some l =>
      rw [e1] at e
      have := intsD_eq e
      subst this
      obtain ⟨a, xs, rfl, hH, hl⟩ := seq_rep st r1 e1
      have := hl.of_ints
      subst this
      rw [← hK] at hH
      exact hH.elim (fun h => .inl ⟨a, ns, rfl, sqL_of h, fin_int st q⟩) fun h => .inr ⟨a, ns, rfl, h, fin_int st q⟩
  · cases ez
theorem blt_all (hc : X.calm = true) : CallR X (.builtin "all") (RMn W (arg1 allM)) := by
  refine args1 (cr_all hc) fun F H A1 x m z Q st r1 ez q => ?_
  unfold allM at ez
  split at ez
  · rename_i ns e
    cases ez
    cases e1 : lstM m with
    | none => rw [e1] at e; cases e
    | some l =>
      rw [e1] at e
      have := blsD_eq e
      subst this
      obtain ⟨a, xs, rfl, hH, hl⟩ := lst_rep st r1 e1
      have := hl.of_bls
      subst this
      exact ⟨a, ns, rfl, sqL_of hH, fin_bl st q⟩
  · cases ez
theorem tupM_eq {m : M} {l : List D} (h : tupM m = some l) : m = .fz (.tup l) := by
  unfold tupM at h
  split at h
  · cases h; rfl
  · cases h
theorem blt_tuple (hK : X.K = W.K) : CallR X (.type "tuple") (RMn W (arg1 tupleM)) := by
  refine args1 call_tuple_of fun F H A1 x m z Q st r1 ez q => ?_
  unfold tupleM at ez
  split at ez
  · rename_i l _ e
    cases ez
    have em := tupM_eq e
    subst em
    obtain ⟨a, xs, rfl, hF, hH, hl⟩ := tup_rep st r1 e
    rw [← hK] at hH
    exact ⟨a, xs, rfl, .inr ⟨hH, fin_old st (.tup hF hl) q⟩⟩
  · rename_i l _ e
    cases ez
    obtain ⟨a, xs, rfl, hH, hl⟩ := lst_rep st r1 e
    exact ⟨a, xs, rfl, .inl ⟨sqL_of hH, fin_newT st hl q⟩⟩
  · cases ez
theorem blt_list (hK : X.K = W.K) : CallR X (.type "list") (RMn W (arg1 listM)) := by
  refine args1 call_list_of fun F H A1 x m z Q st r1 ez q => ?_
  unfold listM at ez
  split at ez
  · rename_i l e
    cases ez
    obtain ⟨a, xs, rfl, hH, hl⟩ := seq_rep st r1 e
    rw [← hK] at hH
    exact ⟨a, xs, rfl, seq_or hH, fin_newL st hl q⟩
  · cases ez
/-! ### isinstance -/
def Ty.py : Ty → String
  | .int => "int" | .bool => "bool" | .str => "str" | .tuple => "tuple" | .list => "list" | .dict => "dict" | .seq => "" | .own _ => ""
def Ty.isB : Ty → Bool
  | .seq => false
  | .own _ => false
  | _ => true
/-- the type's name of data, as isinstance sees it -/
def tyD : M → String
  | .fz (.int _) => "int" | .fz (.bl _) => "bool" | .fz (.str _) => "str" | .fz .non => "NoneType" | .fz (.tup _) => "tuple" | .fz (.lst _) => "list" | .ol _ => "list" | .fz (.dct _) => "dict" | .od _ => "dict"
  | _ => ""
theorem ty_rep (hK : X.K = W.K) (st : St0 W F H) {x : V} {m : M} (r : RepM W F H A x m) (h : isRet (isiM .int m) = true) (hb : isiM .int m ≠ .bad) : TyX X.K H x (.type (tyD m)) := by
  cases r with
  | fz r =>
    cases r with
    | non => exact .base .non
    | bl b => exact .base (.bl b)
    | int i => exact .base (.int i)
    | str y => exact .base (.str y)
    | lst h1 h2 => exact .base (.lst (st.fh _ _ h1))
    | tup h1 h2 =>
      rcases h1 with (h1 | ⟨o, h1⟩) | ⟨o, its, n, hk, hc, _⟩
      · exact .base (.tup (st.fh _ _ h1))
      · exact .fTuple (st.fh _ _ h1)
      · exact .kTuple (by rw [hK]; exact hk) hc
    | dctK h1 h2 => exact .base (.dK (st.fh _ _ h1))
    | dctT h1 h2 => exact .base (.dT (st.fh _ _ h1))
    | _ => exact absurd rfl hb
  | ol h1 h2 h3 h4 => exact .base (.lst h1)
  | odK h1 h2 h3 h4 => exact .base (.dK h1)
  | odT h1 h2 h3 h4 => exact .base (.dT h1)
theorem isi_tab (t : Ty) (m z : M) (ht : t.isB = true) (h : isiM t m = .ret z) : isiM .int m ≠ .bad ∧ ∃ b, z = .fz (.bl b) ∧ kitB (tyD m) t.py = some b := by
  unfold isiM at h
  split at h <;> cases h <;> refine ⟨(fun z => by cases z), _, rfl, ?_⟩ <;> cases t <;> first | (cases ht; done) | (simp only [tyD, Ty.py]; decide +kernel)
theorem px_isi {t : Ty} {p : Pos} (hK : X.K = W.K) (ht : t.isB = true) (hg : Gl X "isinstance") (hm : X.mg "isinstance" = none) (hc : PE X c (tC (.ty t.py)))
    (ha : PE X a (XT W Wx true ra)) (he : starEach [a, c] X.env = (false, eval a X.env) :: starEach [c] X.env) (he2 : starEach [c] X.env = (false, eval c X.env) :: starEach [] X.env) :
    PE X (.Call (.Name "isinstance" p) [a, c] [] pos) (XT W Wx pk fun ρ => do
      let x ← ra ρ
      isiM t x) := by
  refine pe_imp (pe_callB call_isi hg hm (by decide +kernel) (pa_cons ha (pa_cons hc pa_nil he2) he) (by decide) (by decide) he (by rw [he2]; rfl)) fun σ H Q h => ?_
  obtain ⟨F, A, ρ, G, h⟩ := h
  refine XT.use G h fun m v F1 H1 A1 g1 r1 o1 h1 => ?_
  obtain ⟨z, ez, q⟩ := isRet_wp (isiM_ret t m) h1
  obtain ⟨hb, b, rfl, hk⟩ := isi_tab t m z ht ez
  exact ⟨_, _, _, _, b, rfl, .ty _, ty_rep hK g1.st r1 (isiM_ret _ _) hb, kit_ty hk, q _ F1 H1 [] g1 (.fz (.bl _)) .nil⟩
end
end Bx
/-! Bx9: targets, what is walked, comprehensions -/
namespace Bx
open PySem PySem.Spec L2
mutual
def Tg.slots : Tg → List Nat
  | .nm i => [i]
  | .tp l => slotsL l
def slotsL : List Tg → List Nat
  | [] => []
  | t :: ts => t.slots ++ slotsL ts
end
/-- the slots but those of l are as they were -/
def Agree (l : List Nat) (σ σ' : St) : Prop := σ'.length = σ.length ∧ ∀ j, j ∉ l → σ'[j]? = σ[j]?
theorem Agree.refl {l : List Nat} {σ : St} : Agree l σ σ := ⟨rfl, fun _ _ => rfl⟩
theorem Agree.trans {l k : List Nat} {σ σ1 σ2 : St} (a : Agree l σ σ1) (b : Agree k σ1 σ2) : Agree (l ++ k) σ σ2 :=
  ⟨b.1.trans a.1, fun j hj => (b.2 j fun z => hj (List.mem_append_right _ z)).trans (a.2 j fun z => hj (List.mem_append_left _ z))⟩
theorem Agree.mono {l k : List Nat} {σ σ1 : St} (a : Agree l σ σ1) (h : ∀ j ∈ l, j ∈ k) : Agree k σ σ1 := ⟨a.1, fun j hj => a.2 j fun z => hj (h j z)⟩
theorem wipe_get (σ : St) (j : Nat) : ∀ vs : List Nat, (wipe σ vs)[j]? = if j ∈ vs then (if j < σ.length then some none else none) else σ[j]?
  | [] => by simp [wipe]
  | v :: vs => by
    have ih := wipe_get σ j vs
    unfold wipe
    by_cases h : v = j
    · subst h
      rw [if_pos (List.mem_cons_self)]
      by_cases hl : v < σ.length
      · rw [if_pos hl, List.getElem?_set_self (by rw [wipe_length]; exact hl)]
      · rw [if_neg hl, List.getElem?_eq_none (by rw [List.length_set, wipe_length]; omega)]
    · rw [List.getElem?_set_ne h, ih]
      have : (j ∈ v :: vs) ↔ j ∈ vs := by simp [Ne.symm h]
      by_cases hv : j ∈ vs
      · rw [if_pos hv, if_pos (this.mpr hv)]
      · rw [if_neg hv, if_neg fun z => hv (this.mp z)]
theorem Agree.wipe {l : List Nat} {σ σ1 : St} (a : Agree l (wipe σ l) σ1) : wipe σ1 l = L2.wipe σ l := by
  refine List.ext_getElem? fun j => ?_
  rw [wipe_get, wipe_get]
  have h1 : σ1.length = σ.length := by rw [a.1, wipe_length]
  by_cases h : j ∈ l
  · rw [if_pos h, if_pos h, h1]
  · rw [if_neg h, if_neg h, a.2 j h, wipe_get, if_neg h]
section
variable {X : Cx} {W : Wd} {Wx : WX} {F H F' H' : Hp} {A : List Addr} {ρ : En} {σ : St} {pk : Bool} {a b c : Expr} {pos : Pos} {ra rb rc : En → R M}
theorem Good.wipe (g : Good W F H A ρ σ) : ∀ vs : List Nat, ∃ A', Good W F H A' (wipeE ρ vs) (wipe σ vs) ∧ ∀ a ∈ A', a ∈ A
  | [] => ⟨A, g, fun _ h => h⟩
  | v :: vs => by
    obtain ⟨A1, g1, h1⟩ := g.wipe vs
    unfold wipeE L2.wipe
    by_cases hv : v < (wipeE ρ vs).length
    · obtain ⟨B1, Bm, B2, e, _, _, _, h4⟩ := g1.sl.at hv
      subst e
      have sub : ∀ a ∈ B1 ++ B2, a ∈ B1 ++ (Bm ++ B2) := fun a ha => by
        rcases List.mem_append.mp ha with z | z
        · exact List.mem_append_left _ z
        · exact List.mem_append_right _ (List.mem_append_right _ z)
      refine ⟨B1 ++ B2, ⟨g1.st, h4 F H none (((Grow.refl g1.st).keeps g1.sl.owns).sub sub), ?_⟩, fun a ha => h1 a (sub a ha)⟩
      have nd := g1.nd
      rw [List.nodup_append] at nd ⊢
      obtain ⟨n1, n2, n3⟩ := nd
      rw [List.nodup_append] at n2
      exact ⟨n1, n2.2.1, fun a ha b hb => n3 a ha b (List.mem_append_right _ hb)⟩
    · have hv2 : ¬ v < (L2.wipe σ vs).length := by rw [← g1.sl.length]; exact hv
      rw [List.set_eq_of_length_le (by omega), List.set_eq_of_length_le (by omega)]
      exact ⟨A1, g1, h1⟩
/-! ### targets -/
def XG (W : Wd) (t : Tg) : TG := fun v σ H Q => ∃ F A ρ d ρ', Good W F H A ρ σ ∧ Rep W F v d ∧ bindT t d ρ = some ρ' ∧ ∀ σ' A', Good W F H A' ρ' σ' → (∀ a ∈ A', a ∈ A) → Agree t.slots σ σ' → Q σ' H
def XGs (W : Wd) (t : List Tg) : TGs := fun vs σ H Q => ∃ F A ρ ds ρ', Good W F H A ρ σ ∧ RepL W F vs ds ∧ bindTs t ds ρ = some ρ' ∧ ∀ σ' A', Good W F H A' ρ' σ' → (∀ a ∈ A', a ∈ A) → Agree (slotsL t) σ σ' → Q σ' H
theorem pg_imp {e : Expr} {t t' : TG} (h : PG X e t) (i : ∀ v σ H Q, t' v σ H Q → t v σ H Q) : PG X e t' := ⟨fun pins s σ H v u Q I r q => h.run pins s σ H v u Q I r (i v σ H Q q)⟩
theorem pgs_imp {e : List Expr} {t t' : TGs} (h : PGs X e t) (i : ∀ v σ H Q, t' v σ H Q → t v σ H Q) : PGs X e t' := ⟨fun pins s σ H v u Q I r q => h.run pins s σ H v u Q I r (i v σ H Q q)⟩
theorem pg_nm {i : Nat} {x : Str} (hN : X.N.Nodup) (hi : X.N[i]? = some x) (hx : Loc X.env.scope x) (hf : X.fn x = true ∨ X.env.scope.names.lookup x = some .local) : PG X (.Name x pos) (XG W (.nm i)) := by
  refine pg_imp (pg_name hN hi hx hf) fun v σ H Q h => ?_
  obtain ⟨F, A, ρ, d, ρ', G, r, hb, q⟩ := h
  have hb : (if i < ρ.length then some (ρ.set i (some (.fz d))) else none) = some ρ' := hb
  split at hb
  · rename_i hl
    cases hb
    obtain ⟨A', G', sub⟩ := G.set (B := []) hl (Grow.refl G.st) (.fz r) List.nodup_nil (fun _ h => absurd h (by simp))
    refine q _ A' G' (fun a ha => (sub a ha).elim id fun z => ?_) ⟨List.length_set .., fun j hj => List.getElem?_set_ne fun z => hj (by simp [Tg.slots, z])⟩
    obtain ⟨o, ho⟩ := (G'.sl.owns a ha).1
    rw [z] at ho; cases ho
  · cases hb
theorem pgs_nil_x : PGs X [] (XGs W []) := by
  refine pgs_imp pgs_nil fun v σ H Q h => ?_
  obtain ⟨F, A, ρ, ds, ρ', G, r, hb, q⟩ := h
  cases r with
  | nil =>
    have e : some ρ = some ρ' := hb
    cases e
    exact ⟨rfl, q σ A G (fun _ h => h) Agree.refl⟩
  | cons _ _ => exact absurd hb (by simp [bindTs])
theorem pgs_cons_x {t : Tg} {ts : List Tg} {e : Expr} {es : List Expr} (h1 : PG X e (XG W t)) (h2 : PGs X es (XGs W ts)) (hs : (assignEach (e :: es) X.env).map (·.2) = assign e X.env :: (assignEach es X.env).map (·.2)) : PGs X (e :: es) (XGs W (t :: ts)) := by
  refine pgs_imp (pgs_cons h1 h2 hs) fun v σ H Q h => ?_
  obtain ⟨F, A, ρ, ds, ρ', G, r, hb, q⟩ := h
  cases r with
  | nil => exact absurd hb (by simp [bindTs])
  | cons r rs =>
    rename_i v vs d ds
    simp only [bindTs] at hb
    cases e : bindT t d ρ with
    | none => rw [e] at hb; cases hb
    | some ρ1 =>
      rw [e] at hb
      exact ⟨v, vs, rfl, F, A, ρ, d, ρ1, G, r, e, fun σ1 A1 G1 s1 ag1 => ⟨F, A1, ρ1, ds, ρ', G1, rs, hb, fun σ2 A2 G2 s2 ag2 => q σ2 A2 G2 (fun a ha => s1 a (s2 a ha)) (ag1.trans ag2)⟩⟩
theorem bindTs_len : ∀ {ts : List Tg} {ds : List D} {ρ ρ' : En}, bindTs ts ds ρ = some ρ' → ds.length = ts.length
  | [], [], _, _, _ => rfl
  | [], _ :: _, _, _, h => by simp [bindTs] at h
  | _ :: _, [], _, _, h => by simp [bindTs] at h
  | t :: ts, d :: ds, ρ, ρ', h => by
    simp only [bindTs] at h
    cases e : bindT t d ρ with
    | none => rw [e] at h; cases h
    | some ρ1 => rw [e] at h; rw [List.length_cons, List.length_cons, bindTs_len h]
theorem pg_tp {ts : List Tg} {es : List Expr} {k : Nat} (hK : X.K = W.K) (hc : X.calm = true) (h : PGs X es (XGs W ts)) (hn : (assignEach es X.env).length = ts.length) (hst : (assignEach es X.env).findIdx? (·.1) = none) : PG X (.Tuple es k pos) (XG W (.tp ts)) := by
  refine pg_imp (pg_tup hc h hn hst) fun v σ H Q h => ?_
  obtain ⟨F, A, ρ, d, ρ', G, r, hb, q⟩ := h
  cases d with
  | tup ds =>
    cases r with
    | tup h1 h2 =>
      have hb : bindTs ts ds ρ = some ρ' := hb
      exact ⟨_, _, rfl, by rw [hK]; exact sqT_mono G.st.fh h1, by rw [h2.length, bindTs_len hb], F, A, ρ, ds, ρ', G, h2, hb, q⟩
  | _ => exact absurd hb (by simp [bindT])
/-! ### what is walked -/
structure Wk (W : Wd) (F H : Hp) (A : List Addr) (ds : List D) (J : It) : Prop where
  ex : ∃ n G Y, Walk J n G Y ∧ n = ds.length ∧ (∀ F2 H2, Same F F2 → St0 W F2 H2 → (∀ a ∈ A, ∀ o, H a = some o → H2 a = some o) → G H2) ∧
    ∀ i F1 H1 x H2, i < n → Same F F1 → St0 W F1 H1 → Y i H1 x H2 → ∃ F2 d, Grow W F1 H1 F2 H2 ∧ ds[i]? = some d ∧ Rep W F2 x d
def XI (W : Wd) (Wx : WX) (pk : Bool) (r : En → R (List D)) : TI := fun σ H R' => ∃ F A ρ, Good W F H A ρ σ ∧
  (r ρ).wp (fun ds => ∀ F' H' A' J, Grow W F H F' H' → Wk W F' H' A' ds J → Owns W F' H' A' → Own pk A H A' → R' J H') (EW W Wx F H σ)
theorem pi_imp {tg it : Expr} {t t' : TI} (h : PI X tg it t) (i : ∀ σ H Q, t' σ H Q → t σ H Q) : PI X tg it t' := ⟨fun pins s σ H Q I q => h.run pins s σ H Q I (i σ H Q q)⟩
/-- a list or a tuple -/
def iSeq (K : PySem.W.Frag) (tl : TE) : TI := fun σ H R => tl σ H fun x H1 => ∃ a, x = .ref a ∧ (((∃ xs, SqL K H1 a xs) ∧ R (Itl K a) H1) ∨ ((∃ xs, SqT K H1 a xs) ∧ R (Itt K a) H1))
theorem pi_seq {tg l : Expr} {tl : TE} (hl : PE X l tl) : PI X tg l (iSeq X.K tl) := by
  refine ⟨fun pins s σ H R I h => ?_⟩
  refine thn (hl.run pins s σ H _ I h) fun v s1 ⟨x, H1, I1, r1, q1⟩ => ?_
  obtain ⟨a, e, q⟩ := q1
  subst e
  have e : v = .ref a := r1
  subst e
  rcases q with ⟨⟨xs, hq⟩, q⟩ | ⟨⟨xs, hq⟩, q⟩
  · obtain ⟨its, rv, p, hz⟩ := I1.list hq
    refine wpAny_pyIter_list p.isList ?_
    refine ⟨s1.heap.objs.size, [s1.heap.objs.size], _, _, H1, rfl, I1.kept (t' := s1.toks) fun b o e => Heap.get?_push_of_some _ e, turn_list a _, ⟨_, Heap.get?_push_size _ rfl, rfl, rfl⟩, fun b hb => ?_, q⟩
    have e : b = s1.heap.objs.size := by simpa using hb
    subst e
    exact I1.fpOk (Nat.le_refl _) (I1.hok.fresh (Nat.le_refl _))
  · obtain ⟨its, rv, p, hz⟩ := I1.tuple hq
    refine wpAny_pyIter_tuple (show s1.heap.IsTuple a its.toArray from p) ?_
    refine ⟨s1.heap.objs.size, [s1.heap.objs.size], _, _, H1, rfl, I1.kept (t' := s1.toks) fun b o e => Heap.get?_push_of_some _ e, turn_tuple a _, ⟨_, Heap.get?_push_size _ rfl, rfl, rfl⟩, fun b hb => ?_, q⟩
    have e : b = s1.heap.objs.size := by simpa using hb
    subst e
    exact I1.fpOk (Nat.le_refl _) (I1.hok.fresh (Nat.le_refl _))
/-- where a list of data stands, and why it stays -/
theorem lst_stay (st : St0 W F H) {A1 : List Addr} {v : V} {m : M} (r : RepM W F H A1 v m) {l : List D} (h : lstM m = some l) : ∃ p xs, v = .ref p ∧ H p = some (.lst xs) ∧ RepL W F xs l ∧ ((∃ F0 : Unit, F p = some (.lst xs)) ∨ p ∈ A1) := by
  unfold lstM at h
  split at h
  · cases h
    cases r with
    | fz r => cases r with
      | lst h1 h2 => exact ⟨_, _, rfl, st.fh _ _ h1, h2, .inl ⟨(), h1⟩⟩
  · have e := fzs_eq h
    subst e
    cases r with
    | ol h1 h2 h3 h4 => exact ⟨_, _, rfl, h1, (RepMs.of_fz h4).1, .inr (by simp)⟩
  · cases h
theorem stay_to {K : PySem.W.Frag} {A1 : List Addr} {p : Addr} {xs : List V} (hH : H p = some (.lst xs)) (hs : (∃ F0 : Unit, F p = some (.lst xs)) ∨ p ∈ A1) {F2 H2 : Hp} (ff : Same F F2) (st : St0 W F2 H2) (k : ∀ a ∈ A1, ∀ o, H a = some o → H2 a = some o) : SqL K H2 p xs := by
  rcases hs with ⟨_, h⟩ | h
  · exact sqL_of (st.fh _ _ (ff _ _ h))
  · exact sqL_of (k p h _ hH)
theorem yat_rep {xs : List V} {l : List D} (hl : RepL W F xs l) : ∀ i F1 H1 x H2, i < xs.length → Same F F1 → St0 W F1 H1 → YAt xs i H1 x H2 → ∃ F2 d, Grow W F1 H1 F2 H2 ∧ l[i]? = some d ∧ Rep W F2 x d := fun i F1 H1 x H2 _ ff st y => by
  obtain ⟨e, hx⟩ := y
  subst e
  obtain ⟨d, hd, r⟩ := hl.get hx
  exact ⟨F1, d, Grow.refl st, hd, r.mono ff⟩
theorem seqM_cases {m : M} {l : List D} (h : seqM m = some l) : tupM m = some l ∨ lstM m = some l := by
  unfold seqM at h
  split at h
  · cases h; exact .inl rfl
  · cases h; exact .inr rfl
  · exact .inr h
  · cases h
theorem px_itv {tg : Expr} (hK : X.K = W.K) (ha : PE X a (XT W Wx pk ra)) : PI X tg a (XI W Wx pk fun ρ => do
      let m ← ra ρ
      itM m) := by
  refine pi_imp (pi_seq ha) fun σ H Q h => ?_
  obtain ⟨F, A, ρ, G, h⟩ := h
  refine XT.use G h fun m v F1 H1 A1 g1 r1 o1 h1 => ?_
  obtain ⟨l, el, q⟩ := isRet_wp (itM_ret m) h1
  rcases seqM_cases (itM_some el) with e | e
  · obtain ⟨p, xs, rfl, hF, hH, hl⟩ := tup_rep g1.st r1 e
    rw [hK]
    refine ⟨p, rfl, .inr ⟨⟨xs, hH⟩, q F1 H1 [] _ g1 ⟨xs.length, _, _, walk_tup, hl.length, fun F2 H2 ff st _ => sqT_mono (st.fh) (sqT_mono ff hF), yat_rep hl⟩ .nil .nil⟩⟩
  · obtain ⟨p, xs, rfl, hH, hl, hs⟩ := lst_stay g1.st r1 e
    rw [hK]
    exact ⟨p, rfl, .inl ⟨⟨xs, sqL_of hH⟩, q F1 H1 A1 _ g1 ⟨xs.length, _, _, walk_list, hl.length, fun F2 H2 ff st k => stay_to hH hs ff st k, yat_rep hl⟩ r1.owns o1⟩⟩
theorem rngI_get (i j : Int) (k : Nat) (h : k < (j - i).toNat) : (rngI i j)[k]? = some (.int (i + k)) := by
  unfold rngI
  rw [List.getElem?_map, List.getElem?_range h]
  rfl
theorem rngI_len (i j : Int) : (rngI i j).length = (j - i).toNat := by unfold rngI; simp
theorem wk_rng (st : St0 W F H) (i j : Int) (n : Nat) (hn : n = (j - i).toNat) : Wk W F H [] (rngI i j) (Itr i n) := by
  subst hn
  refine ⟨(j - i).toNat, _, _, walk_range, (rngI_len i j).symm, fun _ _ _ _ _ => trivial, fun k F1 H1 x H2 hk ff st y => ?_⟩
  obtain ⟨e, rfl⟩ := y
  subst e
  exact ⟨F1, _, Grow.refl st, rngI_get i j k hk, .int _⟩
theorem rng1M_ret (m : M) : isRet (rng1M m) = true := by
  unfold rng1M
  repeat' split
  all_goals rfl
theorem rng2M_ret (m n : M) : isRet (rng2M m n) = true := by
  unfold rng2M
  repeat' split
  all_goals rfl
theorem xa_one (ha : PE X a (XT W Wx pk ra)) (hs : starEach (a :: []) X.env = (false, eval a X.env) :: starEach [] X.env) : PA X [a] (tCons (XT W Wx pk ra) tNil) := pa_cons ha pa_nil hs
theorem px_rng1 {tg : Expr} {p : Pos} (hg : Gl X "range") (hm : X.mg "range" = none) (ha : PE X a (XT W Wx true ra)) (hs : starEach (a :: []) X.env = (false, eval a X.env) :: starEach [] X.env) : PI X tg (.Call (.Name "range" p) [a] [] pos) (XI W Wx pk fun ρ => do
      let m ← ra ρ
      rng1M m) := by
  refine pi_imp (pi_range1 hg hm (pa_cons ha pa_nil hs) hs) fun σ H Q h => ?_
  obtain ⟨F, A, ρ, G, h⟩ := h
  refine XT.use G h fun m v F1 H1 A1 g1 r1 o1 h1 => ?_
  obtain ⟨l, el, q⟩ := isRet_wp (rng1M_ret m) h1
  unfold rng1M at el
  split at el
  · split at el
    · rename_i n hc
      cases el
      simp only [Bool.and_eq_true, decide_eq_true_eq, sz] at hc
      have e := int_rep r1
      subst e
      exact ⟨n, rfl, by omega, by omega, q F1 H1 [] _ g1 (wk_rng g1.st 0 n _ (by simp)) .nil .nil⟩
    · cases el
  · cases el
theorem px_rng2 {tg : Expr} {p : Pos} (hg : Gl X "range") (hm : X.mg "range" = none) (ha : PE X a (XT W Wx true ra)) (hb : PE X b (XT W Wx true rb)) (hs : starEach [a, b] X.env = (false, eval a X.env) :: starEach [b] X.env) (hs2 : starEach [b] X.env = (false, eval b X.env) :: starEach [] X.env) : PI X tg (.Call (.Name "range" p) [a, b] [] pos) (XI W Wx pk fun ρ => do
      let x ← ra ρ
      let y ← rb ρ
      rng2M x y) := by
  refine pi_imp (pi_range2 hg hm (pa_cons ha (pa_cons hb pa_nil hs2) hs) (by rw [hs, hs2]; rfl) (by rw [hs2]; rfl)) fun σ H Q h => ?_
  obtain ⟨F, A, ρ, G, h⟩ := h
  refine XT.use G h fun m v F1 H1 A1 g1 r1 o1 h1 => ?_
  refine XT.use (G.grow g1) h1 fun m2 v2 F2 H2 A2 g2 r2 o2 h2 => ?_
  obtain ⟨l, el, q⟩ := isRet_wp (rng2M_ret m m2) h2
  unfold rng2M at el
  split at el
  · split at el
    · rename_i i j hc
      cases el
      simp only [Bool.and_eq_true, decide_eq_true_eq, sz] at hc
      have e := int_rep r1
      subst e
      have e := int_rep r2
      subst e
      exact ⟨i, j, rfl, by omega, q F2 H2 [] _ (g1.trans g2) (wk_rng g2.st i j _ rfl) .nil .nil⟩
    · cases el
  · cases el
end
end Bx
/-! Bx10: comprehensions -/
namespace Bx
open PySem PySem.Spec L2
/-- no wish -/
abbrev W0 : WX := fun _ _ _ _ => False
theorem EW.no {W : Wd} {F H : Hp} {σ : St} {e : Er} (h : False) : EW W W0 F H σ e := h.elim
section
variable {X : Cx} {W : Wd} {Wx : WX} {F H F' H' : Hp} {A : List Addr} {ρ : En} {σ : St} {pk : Bool}
/-- what a comprehension has made so far -/
structure Lp (W : Wd) (F1 H1 : Hp) (D : Addr) (f : Bx.D → R (List M)) (ds : List Bx.D) (Fin : List M → Prop) (i : Nat) (H2 : Hp) : Prop where
  ex : ∃ F2 A2 acc ms, Grow W F1 H1 F2 H2 ∧ H2 D = some (.lst acc) ∧ F2 D = none ∧ RepMs W F2 H2 A2 acc ms ∧ (∀ a ∈ A2, H1 a = none ∧ a ≠ D) ∧ A2.Nodup ∧
    (compL f (ds.drop i)).wp (fun rest => Fin (ms ++ rest)) (fun _ => False)
/-- the new list is one longer -/
theorem grow_upd {F1 H1 : Hp} {D : Addr} (g : Grow W F1 H1 F H) (hD : H1 D = none) (hF : F D = none) (hg : ¬ W.Gh D) (o : HO) : Grow W F1 H1 F (upd H D o) :=
  ⟨g.ff, ⟨fun a x e => by rw [upd_ne (ne_of_none e hF)]; exact g.st.fh _ _ e, W.stab _ _ _ _ g.st.wi (Same.refl F) (fun a q => by rw [upd_ne fun z => hg (by rw [← z]; exact q)]), g.st.gh⟩,
    fun a x e q => by rw [upd_ne (ne_of_none e hD)]; exact g.keep a x e q, g.nf⟩
theorem keeps_upd {D : Addr} {A : List Addr} (h : ∀ a ∈ A, a ≠ D) (o : HO) : Keeps F H F (upd H D o) A := ⟨Same.refl F, fun a ha x e => by rw [upd_ne (h a ha)]; exact e, fun _ _ n => n⟩
theorem comp_core {F0 H0 F1 H1 : Hp} {J : L2.It} {A1 : List Addr} {ds : List D} {t : Tg} {own : List Nat} {rt : En → R Bool} {re : En → R M} {Fin : List M → Prop} {D : Addr} {Qd : Hp → Prop}
    (G : Good W F0 H0 A ρ σ) (g1 : Grow W F0 H0 F1 H1) (wk : Wk W F1 H1 A1 ds J) (hO : Owns W F1 H1 A1) (hD : H1 D = none) (hsub : ∀ j ∈ t.slots, j ∈ own)
    (h : (compL (fun x => bindR (bindT t x (wipeE ρ own)) fun ρ' => do
      let b ← rt ρ'
      if b then do
        let m ← re ρ'
        .ret [m]
      else .ret []) ds).wp Fin (fun _ => False))
    (hF : ∀ l, Fin l → l.length ≤ sz)
    (hd : ∀ (F2 H2 : Hp) (A2 : List Addr) (ms : List M), Grow W F1 H1 F2 H2 → RepM W F2 H2 (D :: A2) (.ref D) (.ol ms) → (∀ a ∈ D :: A2, H1 a = none) → (D :: A2).Nodup → Fin ms → Qd H2) :
    ∃ W' : Nat → Nat → Hp → Prop, (∃ m, W' 0 m (upd H1 D (.lst []))) ∧ ∀ i m H, W' i m H →
      (J.stop i H ∧ Qd H) ∨ (J.go i H ∧ ∃ Nx : Hp → Prop, (∀ H', Nx H' → ∃ m', m' < m ∧ W' (i + 1) m' H') ∧ ∀ x H', J.yld i H x H' → XG W t x (wipe σ own) H' fun σ2 H2 => wipe σ2 own = wipe σ own ∧ XTt W W0 rt σ2 H2 fun b H3 =>
        if b = true then XT W W0 false re σ2 H3 fun y H4 => ∃ acc, H4 D = some (.lst acc) ∧ acc.length < sizeLine ∧ Nx (upd H4 D (.lst (acc ++ [y]))) else Nx H3) := by
  obtain ⟨n, GG, Y, w, hn, hG, hY⟩ := wk.ex
  have hgD := g1.st.nogh hD
  have hFD := g1.st.fnone hD
  refine lc_it w (Lp W F1 H1 D _ ds Fin) ⟨F1, [], [], [], grow_upd (Grow.refl g1.st) hD hFD hgD _, upd_same, hFD, .nil, fun _ h => absurd h (by simp), List.nodup_nil, h⟩ (fun i H2 _ p => ?_) (fun i x H2 H3 hi p y => ?_) (fun H2 p => ?_)
  · obtain ⟨F2, A2, acc, ms, g2, _⟩ := p.ex
    exact hG F2 H2 g2.ff g2.st fun a ha o e => g2.keep a o e (hO a ha).2.2
  · obtain ⟨F2, A2, acc, ms, g2, eD, fD, rm, nw, nd, hw⟩ := p.ex
    obtain ⟨F3, d, g3, ed, rd⟩ := hY i F2 H2 x H3 hi g2.ff g2.st y
    have edr : ds.drop i = d :: ds.drop (i + 1) := by
      have hlt := (List.getElem?_eq_some_iff.mp ed).1
      rw [List.drop_eq_getElem_cons hlt]
      rw [(List.getElem?_eq_some_iff.mp ed).2]
    rw [edr] at hw
    have hw' := R.wp_bind.mp (show R.wp _ _ (_ >>= _) from hw)
    dsimp only at hw'
    obtain ⟨A', Gw, _⟩ := ((G.grow g1).grow (g2.trans g3)).wipe own
    cases eb : bindT t d (wipeE ρ own) with
    | none => rw [eb] at hw'; exact hw'.elim
    | some ρ' =>
      rw [eb] at hw'
      refine ⟨F3, A', wipeE ρ own, d, ρ', Gw, rd, eb, fun σ2 B Gb _ ag => ⟨(ag.mono hsub).wipe, ?_⟩⟩
      have hw2 := R.wp_bind.mp (show R.wp _ _ (rt ρ' >>= _) from hw')
      refine ⟨F3, B, ρ', Gb, R.wp_mono (fun b hb F4 H4 g4 => ?_) (fun _ q => q.elim) hw2⟩
      have eD4 : H4 D = some (.lst acc) := g4.keep D _ (g3.keep D _ eD hgD) hgD
      have fD4 : F4 D = none := g4.nf D _ (g3.keep D _ eD hgD) (g3.nf D _ eD fD)
      cases b with
      | false =>
        dsimp only at hb ⊢
        rw [if_neg Bool.false_ne_true] at hb ⊢
        have hb' : R.wp _ _ (compL _ (ds.drop (i + 1)) >>= _) := hb
        have hb2 := R.wp_bind.mp hb'
        refine ⟨F4, A2, acc, ms, (g2.trans g3).trans g4, eD4, fD4, (rm.grow g3).grow g4, nw, nd, R.wp_mono (fun rest q => ?_) (fun _ q => q) hb2⟩
        exact q
      | true =>
        dsimp only at hb ⊢
        rw [if_pos rfl] at hb ⊢
        have hb' := R.wp_bind.mp hb
        refine ⟨F4, B, ρ', Gb.grow g4, R.wp_mono (fun m hm v F5 H5 A5 g5 r5 o5 => ?_) (fun _ q => q.elim) hb'⟩
        have hm' : R.wp _ _ (compL _ (ds.drop (i + 1)) >>= _) := hm
        have hm2 := R.wp_bind.mp hm'
        have eD5 : H5 D = some (.lst acc) := g5.keep D _ eD4 hgD
        have fD5 : F5 D = none := g5.nf D _ eD4 fD4
        obtain ⟨rest, hrest⟩ := R.wp_ex hm2
        have hlen := hF _ hrest
        have r2 := ((rm.grow g3).grow g4).grow g5
        have n5 : ∀ a ∈ A5, a ≠ D := fun a ha z => by
          have := o5.fresh a ha
          rw [z, eD4] at this; cases this
        have gg := ((g2.trans g3).trans g4)
        refine ⟨acc, eD5, ?_, F5, A2 ++ A5, acc ++ [v], ms ++ [m], grow_upd (gg.trans g5) hD fD5 hgD _, upd_same, fD5, ?_, ?_, ?_, R.wp_mono (fun rest q => ?_) (fun _ q => q) hm2⟩
        · refine sz_lt ?_
          rw [r2.length]
          simp only [List.length_append, List.length_cons] at hlen
          omega
        · have a1 := r2.keep (keeps_upd (D := D) (fun a ha => (nw a ha).2) (.lst (acc ++ [v])))
          have a2 := r5.keep (keeps_upd (D := D) n5 (.lst (acc ++ [v])))
          have := RepMs.cons (As := []) a2 .nil
          rw [List.append_nil] at this
          exact a1.append this
        · intro a ha
          rcases List.mem_append.mp ha with z | z
          · exact nw a z
          · exact ⟨gg.free (o5.fresh a z), n5 a z⟩
        · refine List.nodup_append.mpr ⟨nd, o5.2 rfl, fun a ha b hb z => ?_⟩
          subst z
          obtain ⟨o, ho⟩ := (((rm.grow g3).grow g4).owns a ha).1
          rw [o5.fresh a hb] at ho; cases ho
        · have q' : Fin (ms ++ ([m] ++ rest)) := q
          rw [List.append_assoc]
          exact q'
  · obtain ⟨F2, A2, acc, ms, g2, eD, fD, rm, nw, nd, hw⟩ := p.ex
    subst hn
    rw [List.drop_length] at hw
    have hw : Fin (ms ++ []) := hw
    rw [List.append_nil] at hw
    refine hd F2 H2 A2 ms g2 (.ol eD fD hgD rm) (fun a ha => ?_) (List.nodup_cons.mpr ⟨fun z => (nw D z).2 rfl, nd⟩) hw
    rcases List.mem_cons.mp ha with z | z
    · rw [z]; exact hD
    · exact (nw a z).1
theorem lstR_fin {ms : List M} {Q : M → Prop} {E : Er → Prop} (h : (lstR ms).wp Q E) : ms.length ≤ sz ∧ Q (.ol ms) := by
  unfold lstR at h
  split at h
  · rename_i hc
    exact ⟨of_decide_eq_true hc, h⟩
  · exact h.elim
theorem px_comp {elt tg iter : Expr} {ifs : List Expr} {scope : Scope} {own : List (Str × Nat)} {pos : Pos} {t : Tg} {ri : En → R (List D)} {rt : En → R Bool} {re : En → R M} (hc : X.calm = true) (hN : X.N.Nodup) (hi : PI X tg iter (XI W Wx true ri)) (ok : BlkOk X.N X.env.scope scope own)
    (hsub : ∀ j ∈ t.slots, j ∈ own.map (·.2))
    (hg : ∀ (s : Shared) (H : Hp) (C : Addr) (cl : List (Str × Addr)) (fp : List Addr), PG (X.blk s H scope (compEnvC scope cl C X.env) fp) tg (XG W t)) (ht : ∀ (s : Shared) (H : Hp) (C : Addr) (cl : List (Str × Addr)) (fp : List Addr), PTs (X.blk s H scope (compEnvC scope cl C X.env) fp) ifs (XTt W W0 rt))
    (he : ∀ (s : Shared) (H : Hp) (C : Addr) (cl : List (Str × Addr)) (fp : List Addr), PE (X.blk s H scope (compEnvC scope cl C X.env) fp) elt (XT W W0 false re)) (hs : ∀ x, foldedSetIterable iter X.env x = pure x) :
    PE X (.ListComp elt [⟨tg, iter, ifs, 0⟩] scope pos) (XT W Wx pk fun ρ => do
      let xs ← ri ρ
      let l ← (compL (fun x => bindR (bindT t x (wipeE ρ (own.map (·.2)))) fun ρ' => do
        let b ← rt ρ'
        if b then do
          let m ← re ρ'
          .ret [m]
        else .ret []) xs).noerr
      lstR l) := by
  refine pe_imp (pe_lc hc hN hi ok hg ht he hs) fun σ H Q h => ?_
  obtain ⟨F, A, ρ, G, h⟩ := h
  refine ⟨F, A, ρ, G, R.wp_mono (fun ds hd F1 H1 A1 J g1 wk hO o1 D hD => ?_) (fun _ q => q) (R.wp_bind.mp h)⟩
  have hw := R.wp_noerr (R.wp_bind.mp hd)
  refine comp_core G g1 wk hO hD hsub hw (fun l q => (lstR_fin q).1) fun F2 H2 A2 ms g2 r nw nd q => ?_
  exact (lstR_fin q).2 _ F2 H2 _ (g1.trans g2) r (Own.of_new (fun a ha => g1.free (nw a ha)) nd)
theorem ps_setComp {i : Nat} {y : Str} {py : Pos} {elt tg iter : Expr} {ifs : List Expr} {scope : Scope} {own : List (Str × Nat)} {pos spos : Pos} {t : Tg} {ri : En → R (List D)} {rt : En → R Bool} {re : En → R M} (hc : X.calm = true) (hN : X.N.Nodup)
    (hy : X.N[i]? = some y) (hyl : X.env.scope.names.lookup y = some .local) (hsw : swapsWith (.ListComp elt [⟨tg, iter, ifs, 0⟩] scope pos) (some (.Name y py)) spos.line X.env = pure true)
    (hi : PI X tg iter (XI W Wx true ri)) (ok : BlkOk X.N X.env.scope scope own) (hsub : ∀ j ∈ t.slots, j ∈ own.map (·.2))
    (hg : ∀ (s : Shared) (H : Hp) (C : Addr) (cl : List (Str × Addr)) (fp : List Addr), PG (X.blk s H scope (compEnvC scope cl C X.env) fp) tg (XG W t)) (ht : ∀ (s : Shared) (H : Hp) (C : Addr) (cl : List (Str × Addr)) (fp : List Addr), PTs (X.blk s H scope (compEnvC scope cl C X.env) fp) ifs (XTt W W0 rt))
    (he : ∀ (s : Shared) (H : Hp) (C : Addr) (cl : List (Str × Addr)) (fp : List Addr), PE (X.blk s H scope (compEnvC scope cl C X.env) fp) elt (XT W W0 false re)) (hs : ∀ x, foldedSetIterable iter X.env x = pure x) :
    PS X (.Assign [.Name y py] (.ListComp elt [⟨tg, iter, ifs, 0⟩] scope pos) spos) (tAsg (XT W Wx pk fun ρ => do
      let xs ← ri ρ
      let l ← (compL (fun x => bindR (bindT t x (wipeE ρ (own.map (·.2)))) fun ρ' => do
        let b ← rt ρ'
        if b then do
          let m ← re ρ'
          .ret [m]
        else .ret []) xs).noerr
      lstR l) (gName i)) := by
  have hp := ps_setLc hc hN hy hyl hsw hi ok hg ht he hs
  refine ⟨fun pins s σ H D I h => hp.run pins s σ H D I ?_⟩
  obtain ⟨F, A, ρ, G, h⟩ := h
  refine ⟨F, A, ρ, G, R.wp_mono (fun ds hd F1 H1 A1 J g1 wk hO o1 D hD => ?_) (fun _ q => q) (R.wp_bind.mp h)⟩
  have hw := R.wp_noerr (R.wp_bind.mp hd)
  refine comp_core G g1 wk hO hD hsub hw (fun l q => (lstR_fin q).1) fun F2 H2 A2 ms g2 r nw nd q => ?_
  exact (lstR_fin q).2 _ F2 H2 _ (g1.trans g2) r (Own.of_new (fun a ha => g1.free (nw a ha)) nd)
end
end Bx
/-! Bx11: calls of the text's own defs -/
namespace Bx
open PySem PySem.Spec L2
/-- the promise of a def of n parameters that works out φ -/
def FSp (W : Wd) (n : Nat) (φ : List D → R M) : Sp := fun vs H Q E => vs.length = n ∧ ∃ F ds, St0 W F H ∧ RepL W F vs ds ∧
  (φ ds).wp (fun m => ∀ v F' H' A', Grow W F H F' H' → RepM W F' H' A' v m → (∀ a ∈ A', H a = none) → A'.Nodup → Q v H') (fun e => ∀ cl d F' H', Grow W F H F' H' → ErR W F' cl d e → E cl d H')
def gP (pm : List Nat) : List Value → List Value → List Value := fun _ ws => pm.map fun k => ws.getD k .none
def gPV (pm : List Nat) : List V → List V → List V := fun _ ws => pm.map fun k => ws.getD k .non
theorem getD_vals : ∀ {zs : List V} {ws : List Value} (k : Nat), Vals zs ws → RelV (zs.getD k .non) (ws.getD k .none)
  | _, _, _, .nil => rfl
  | _, _, 0, .cons a _ => a
  | _, _, k + 1, .cons _ b => by simpa using getD_vals k b
theorem gP_rel (pm : List Nat) {vs : List V} {us : List Value} {zs : List V} {ws : List Value} (_ : Vals vs us) (h : Vals zs ws) : Vals (gPV pm vs zs) (gP pm us ws) := by
  unfold gPV gP
  induction pm with
  | nil => exact .nil
  | cons k pm ih => exact .cons (getD_vals k h) ih
theorem getD_rep {W : Wd} {F : Hp} : ∀ {vs : List V} {ds : List D} (k : Nat), RepL W F vs ds → Rep W F (vs.getD k .non) (ds.getD k .non)
  | _, _, _, .nil => .non
  | _, _, 0, .cons a _ => a
  | _, _, k + 1, .cons _ b => by simpa using getD_rep k b
theorem pm_rep {W : Wd} {F : Hp} {vs : List V} {ds : List D} (h : RepL W F vs ds) (pm : List Nat) : RepL W F (pm.map fun k => vs.getD k .non) (pm.map fun k => ds.getD k .non) := by
  induction pm with
  | nil => exact .nil
  | cons k pm ih => exact .cons (getD_rep k h) ih
theorem map_getD {α : Type} (d : α) : ∀ l : List α, ((List.range l.length).map fun k => l.getD k d) = l := fun l => by
  refine List.ext_getElem? fun i => ?_
  rw [List.getElem?_map]
  by_cases h : i < l.length
  · rw [List.getElem?_range h, List.getElem?_eq_getElem h]
    simp [h]
  · rw [List.getElem?_eq_none (by simpa using h), List.getElem?_eq_none (by omega)]
    rfl
/-- FnOk, where (g) nothing is being shown -/
structure FnG (g : Bool) (P : Program) (w : World) (K : PySem.W.Frag) (mg : Str → Option Value) (base : Heap) (k : Nat) (f : Addr) (fd : FuncData) (ps : List Str) (sp : Sp) : Prop where
  len : ∀ vs H Q E, sp vs H Q E → vs.length = ps.length
  run : ∀ (A : Around) (outer : List Env) (s : Shared) (H : Hp) (args : Args) (us : List Value) (vs : List V) (Q : VK) (E : XK), (g = true → A.guards = some []) → Room k A → Env0 P w K mg base A outer s H → BindsTo s fd args (ps.zip us) → Vals vs us → sp vs H Q E →
    codeAny (model P w) A (.call (.ref f) args) (CR (L2.CX P w) outer P w H s Q E) s
/-- a def of the text at a, called by the name x -/
structure FnC (W : Wd) (P : Program) (w : World) (K : PySem.W.Frag) (mg : Str → Option Value) (base : Heap) (g : Bool) (k : Nat) (x : Str) (a : Addr) (ps : List Str) (kws : List (List Str × List Nat)) (φ : List D → R M) : Prop where
  ex : ∃ fd j, j ≤ k ∧ FnG g P w K mg base j a fd ps (FSp W ps.length φ) ∧ Binds K fd ps [] ∧
    ∀ q ∈ kws, q.2.length = ps.length ∧ ∀ (s : Shared) (ws : List Value), K.In s.heap → ws.length = q.1.length → BindsTo s fd ⟨[], q.1.zip ws⟩ (ps.zip (gP q.2 [] ws))
  gl : mg x = some (.ref a)
  kp : PySem.W.keepIn K (.ref a) = true
section
variable {X : Cx} {W : Wd} {Wx : WX} {F H F' H' : Hp} {A : List Addr} {ρ : En} {σ : St} {pk : Bool}
theorem XTa.use0 {β : Type} {r : En → R (List M)} {k : List M → R β} {QQ : β → Prop} {EE : Er → Prop} {P : List V → Hp → Prop} (G : Good W F H A ρ σ) (h : (r ρ >>= k).wp QQ EE) (hE : ∀ e, EE e → EW W Wx F H σ e)
    (next : ∀ m v F' H' A', Grow W F H F' H' → RepMs W F' H' A' v m → Own pk A H A' → (k m).wp QQ EE → P v H') : XTa W Wx pk r σ H P :=
  ⟨F, A, ρ, G, R.wp_mono (fun m hm v F' H' A' g r o => next m v F' H' A' g r o hm) hE (R.wp_bind.mp h)⟩
/-- the reading of a call -/
theorem fsp_of {n : Nat} {φ : List D → R M} {ms : List M} {vs : List V} {F1 H1 : Hp} {A1 : List Addr} {Q : VK} {pm : List Nat} (g1 : Grow W F H F1 H1) (r1 : RepMs W F1 H1 A1 vs ms) (o1 : Own false A H A1) (hn : pm.length = n)
    (h : (φ (pm.map fun k => (toDs ms).getD k .non)).wp (fun m => ∀ v F' H' A', Grow W F H F' H' → RepM W F' H' A' v m → Own pk A H A' → Q v H') (EW W Wx F H σ)) :
    FSp W n φ (pm.map fun k => vs.getD k .non) H1 Q (WE Wx σ) := by
  have g2 := Grow.frz g1.st g1 r1.owns o1.fresh
  exact ⟨by simpa using hn, frz F1 H1 A1, _, g2.st, pm_rep (r1.frz' ms) pm, R.wp_mono (fun m q v F' H' A' g r nw nd => q v F' H' A' (g2.trans g) r (Own.of_new (fun a ha => g1.free (nw a ha)) nd)) (fun e q cl d F' H' g r => q cl d F' H' (g2.trans g) r) h⟩
theorem toDs_len : ∀ ms : List M, (toDs ms).length = ms.length
  | [] => rfl
  | m :: ms => by rw [toDs, List.length_cons, List.length_cons, toDs_len ms]
theorem run_fng {g : Bool} {k : Nat} {f : Addr} {fd : FuncData} {ps : List Str} {sp : Sp} {E : St → XK} {pins : List (Addr × Obj)} {s : Shared} {Q : VK} {us : List Value} {vs : List V} (Fn : FnG g X.prog X.w X.K X.mg X.base k f fd ps sp) (hgs : g = true → X.A.guards = some []) (hr : Room k X.A) (hb : Binds X.K fd ps []) (hx : PassesAt (L2.CX X.prog X.w) X σ (E σ))
    (I : L2.Inv X pins σ H s) (r : Vals vs us) (h : sp vs H Q (E σ)) : wpAny (model X.prog X.w) X.A (call (.ref f) us) (EP X pins σ Q) X.xe s := by
  have hl : us.length = ps.length := by rw [← r.length]; exact Fn.len _ _ _ _ h
  have b := hb s us I.kIn (by rw [List.append_nil]; exact hl)
  rw [List.append_nil] at b
  refine wpAny_call (codeAny_mono (Fn.run X.A X.stack s H ⟨us, []⟩ us vs Q (E σ) hgs hr I.env0 b r h) fun r s' hq => ?_)
  cases r with
  | error e => exact hx pins H s e s' I hq
  | ok fl =>
    cases fl with
    | ret u => exact I.after hq
    | next => exact False.elim hq
    | brk => exact False.elim hq
    | cont => exact False.elim hq
theorem px_call {g : Bool} {e1 : Expr} {es : List Expr} {x : Str} {p pos : Pos} {k : Nat} {a : Addr} {ps : List Str} {kws : List (List Str × List Nat)} {φ : List D → R M} {rs : En → R (List M)}
    (C : FnC W X.prog X.w X.K X.mg X.base g k x a ps kws φ) (hgs : g = true → X.A.guards = some []) (hr : Room k X.A) (tk : Takes X Wx) (hg : Gl X x) (ha : PA X (e1 :: es) (XTa W Wx false rs)) (hdb : (x == ("__debug__" : Str)) = false)
    (he : starEach (e1 :: es) X.env = (false, eval e1 X.env) :: starEach es X.env) (hpl : (backTo pos (starEach es X.env)).any (·.1) = false)
    (hms : ∀ (ρ : En) (Q : List M → Prop) (E : Er → Prop), (rs ρ).wp Q E → (rs ρ).wp (fun ms => ms.length = ps.length ∧ Q ms) E) :
    PE X (.Call (.Name x p) (e1 :: es) [] pos) (XT W Wx pk fun ρ => do
      let ms ← rs ρ
      φ ((List.range ps.length).map fun k => (toDs ms).getD k .non)) := by
  obtain ⟨fd, j, hj, hF, hB, _⟩ := C.ex
  refine ⟨fun pins s σ H Q I h => ?_⟩
  obtain ⟨F, A, ρ, G, h⟩ := h
  have h' := hms ρ _ _ (R.wp_bind.mp h)
  refine wpAny_Call_Name_kw (ld_glob I hg C.gl ?_ hdb)
  refine PySem.W.callWith_K (h₀ := X.base) I.ok.mod.kin C.kp (thn (ha.run pos pins s σ H (fun vs H1 => FSp W ps.length φ vs H1 Q (WE Wx σ)) I ⟨F, A, ρ, G, R.wp_mono (fun ms hm v F1 H1 A1 g1 r1 o1 => ?_) (fun _ q => q) h'⟩) fun us s1 ⟨vs, H1, I1, r, q⟩ => ⟨I1.kIn, ?_⟩) he hpl
  · obtain ⟨hl, hm⟩ := hm
    have q := fsp_of (pk := pk) (A := A) g1 r1 o1 (n := ps.length) (by simp) hm
    have ev : ((List.range ps.length).map fun k => v.getD k .non) = v := by
      rw [← hl, ← r1.length]
      exact map_getD _ _
    rw [ev] at q
    exact q
  · exact run_fng (E := WE Wx) hF hgs (hr.mono hj) hB (passAt tk σ) I1 r q
/-- x(..), x a name that holds a def -/
theorem px_callV {g : Bool} {e1 : Expr} {es : List Expr} {x : Str} {p pos : Pos} {k i n : Nat} {T : Nat → Option (List D → R M)} {rs : En → R (List M)} (hT : ∀ j φ, T j = some φ → ∃ fd q ps, q ≤ k ∧ ps.length = n ∧ FnG g X.prog X.w X.K X.mg X.base q (W.fnA j) fd ps (FSp W n φ) ∧ Binds X.K fd ps [] ∧ PySem.W.keepIn X.K (.ref (W.fnA j)) = true)
    (hgs : g = true → X.A.guards = some []) (hr : Room k X.A) (tk : Takes X Wx) (hN : X.N[i]? = some x) (hv : Vis X.env.scope x) (hd : (x == ("__debug__" : Str)) = false) (hcd : (x == ("__classdict__" : Str)) = false) (ha : PA X (e1 :: es) (XTa W Wx false rs))
    (he : starEach (e1 :: es) X.env = (false, eval e1 X.env) :: starEach es X.env) (hpl : (backTo pos (starEach es X.env)).any (·.1) = false)
    (hms : ∀ (ρ : En) (Q : List M → Prop) (E : Er → Prop), (rs ρ).wp Q E → (rs ρ).wp (fun ms => ms.length = n ∧ Q ms) E) :
    PE X (.Call (.Name x p) (e1 :: es) [] pos) (XT W Wx pk fun ρ => match ρ[i]? with
      | some (some (.fz (.fn j))) => match T j with
        | some φ => do
          let ms ← rs ρ
          φ ((List.range n).map fun k => (toDs ms).getD k .non)
        | none => .bad
      | _ => .bad) := by
  refine ⟨fun pins s σ H Q I h => ?_⟩
  obtain ⟨F, A, ρ, G, h⟩ := h
  dsimp only at h
  split at h
  · rename_i j em
    split at h
    · rename_i φ eT
      obtain ⟨fd, q, ps, hq, hn, hF, hB, hkp⟩ := hT j φ eT
      obtain ⟨v, Am, ev, rv, _⟩ := G.sl.get em
      have hv' : v = .ref (W.fnA j) := by
        cases rv with
        | fz r => cases r; rfl
      subst hv'
      have h' := hms ρ _ _ (R.wp_bind.mp h)
      refine wpAny_Call_Name_kw (thn ((pe_var (pos := p) (i := i) hN hv hd hcd).run pins s σ H (fun v H1 => v = .ref (W.fnA j) ∧ H1 = H) I ⟨_, ev, rfl, rfl⟩) fun u s1 ⟨v, H1, I1, r1, e1', e2'⟩ => ?_)
      subst e1'
      rw [e2'] at I1
      obtain rfl : u = Value.ref (W.fnA j) := r1
      refine PySem.W.callWith_K (h₀ := X.base) I1.ok.mod.kin hkp (thn (ha.run pos pins s1 σ H (fun vs H1 => FSp W n φ vs H1 Q (WE Wx σ)) I1 ⟨F, A, ρ, G, R.wp_mono (fun ms hm v F1 H1 A1 g1 r1 o1 => ?_) (fun _ q => q) h'⟩) fun us s1 ⟨vs, H1, I1, r, q⟩ => ⟨I1.kIn, ?_⟩) he hpl
      · obtain ⟨hl, hm⟩ := hm
        have q := fsp_of (pk := pk) (A := A) g1 r1 o1 (n := n) (by simp) hm
        have ev : ((List.range n).map fun k => v.getD k .non) = v := by
          rw [← hl, ← r1.length]
          exact map_getD _ _
        rw [ev] at q
        exact q
      · exact run_fng (E := WE Wx) hF hgs (hr.mono hq) hB (passAt tk σ) I1 r q
    · exact h.elim
  · exact h.elim
/-- f(k = v, ..) -/
theorem run_fnkS {g : Bool} {k : Nat} {f : Addr} {fd : FuncData} {ps ks : List Str} {pm : List Nat} {sp : Sp} {E : St → XK} {pins : List (Addr × Obj)} {s : Shared} {Q : VK} {ws : List Value} {zs : List V} (Fn : FnG g X.prog X.w X.K X.mg X.base k f fd ps sp) (hgs : g = true → X.A.guards = some []) (hr : Room k X.A)
    (hb : ∀ (s : Shared) (ws : List Value), X.K.In s.heap → ws.length = ks.length → BindsTo s fd ⟨[], ks.zip ws⟩ (ps.zip (gP pm [] ws))) (hx : PassesAt (L2.CX X.prog X.w) X σ (E σ))
    (I : L2.Inv X pins σ H s) (rz : Vals zs ws) (hl : zs.length = ks.length) (h : sp (gPV pm [] zs) H Q (E σ)) : wpAny (model X.prog X.w) X.A (call (.ref f) [] (ks.zip ws)) (EP X pins σ Q) X.xe s := by
  have b := hb s ws I.kIn (by rw [← rz.length]; exact hl)
  refine wpAny_call (codeAny_mono (Fn.run X.A X.stack s H ⟨[], ks.zip ws⟩ (gP pm [] ws) (gPV pm [] zs) Q (E σ) hgs hr I.env0 b (gP_rel pm .nil rz) h) fun r s' hq => ?_)
  cases r with
  | error e => exact hx pins H s e s' I hq
  | ok fl =>
    cases fl with
    | ret u => exact I.after hq
    | next => exact False.elim hq
    | brk => exact False.elim hq
    | cont => exact False.elim hq
theorem pk_imp {e : List Keyword} {t t' : TA} (h : PK X e t) (i : ∀ σ H Q, t' σ H Q → t σ H Q) : PK X e t' := ⟨fun pos pins s σ H Q I q => h.run pos pins s σ H Q I (i σ H Q q)⟩
theorem xk_nil : PK X [] (XTa W Wx pk fun _ => .ret []) := by
  refine pk_imp pk_nil fun σ H Q h => ?_
  obtain ⟨F, A, ρ, G, h⟩ := h
  exact h [] F H [] (Grow.refl G.st) .nil .nil
theorem xk_cons {nm : Option Str} {a : Expr} {kpos : Pos} {es : List Keyword} {ra : En → R M} {rs : En → R (List M)} (ha : PE X a (XT W Wx pk ra)) (hr : PK X es (XTa W Wx pk rs)) : PK X (⟨nm, a, kpos⟩ :: es) (XTa W Wx pk fun ρ => do
      let m ← ra ρ
      let ms ← rs ρ
      .ret (m :: ms)) := by
  refine pk_imp (pk_cons ha hr) fun σ H Q h => ?_
  obtain ⟨F, A, ρ, G, h⟩ := h
  refine XT.use G h fun m v F1 H1 A1 g1 r1 o1 h1 => ?_
  refine XTa.use (G.grow g1) h1 fun m2 v2 F2 H2 A2 g2 r2 o2 h2 => ?_
  exact h2 _ F2 H2 _ (g1.trans g2) (.cons (r1.grow g2) r2) (own_app (v := v) (m := m) g1 r1.owns o1 o2)
theorem px_callK {g : Bool} {kws : List Keyword} {x : Str} {p pos : Pos} {k : Nat} {a : Addr} {ps : List Str} {kl : List (List Str × List Nat)} {ks : List Str} {pm : List Nat} {φ : List D → R M} {rs : En → R (List M)}
    (C : FnC W X.prog X.w X.K X.mg X.base g k x a ps kl φ) (hq : (ks, pm) ∈ kl) (hgs : g = true → X.A.guards = some []) (hr : Room k X.A) (tk : Takes X Wx) (hg : Gl X x) (ha : PK X kws (XTa W Wx false rs)) (hdb : (x == ("__debug__" : Str)) = false)
    (hall : (backToKw pos (keywordEach kws X.env)).all (·.1.isSome) = true) (hks : (backToKw pos (keywordEach kws X.env)).filterMap (·.1) = ks)
    (hpl : ((backTo pos (starEach [] X.env)).any (·.1) || (backToKw pos (keywordEach kws X.env)).any (·.1.isNone)) = false)
    (hms : ∀ (ρ : En) (Q : List M → Prop) (E : Er → Prop), (rs ρ).wp Q E → (rs ρ).wp (fun ms => ms.length = ks.length ∧ Q ms) E) :
    PE X (.Call (.Name x p) [] kws pos) (XT W Wx pk fun ρ => do
      let ms ← rs ρ
      φ (pm.map fun k => (toDs ms).getD k .non)) := by
  obtain ⟨fd, j, hj, hF, _, hB⟩ := C.ex
  obtain ⟨hlp, hb⟩ := hB _ hq
  refine ⟨fun pins s σ H Q I h => ?_⟩
  obtain ⟨F, A, ρ, G, h⟩ := h
  have h' := hms ρ _ _ (R.wp_bind.mp h)
  refine wpAny_Call_Name_kw (ld_glob I hg C.gl ?_ hdb)
  refine PySem.W.callWith_KW0 (h₀ := X.base) I.ok.mod.kin C.kp hall ?_ hpl
  refine thn (ha.run pos pins s σ H (fun vs H1 => vs.length = ks.length ∧ FSp W ps.length φ (gPV pm [] vs) H1 Q (WE Wx σ)) I ⟨F, A, ρ, G, R.wp_mono (fun ms hm v F1 H1 A1 g1 r1 o1 => ?_) (fun _ q => q) h'⟩) fun ws s2 ⟨zs, H2, I2, rz, hl, q2⟩ => ⟨I2.kIn, ?_⟩
  · obtain ⟨hl, hm⟩ := hm
    exact ⟨r1.length.trans hl, fsp_of (pk := pk) (A := A) g1 r1 o1 hlp hm⟩
  · rw [hks]
    exact run_fnkS (E := WE Wx) hF hgs (hr.mono hj) hb (passAt tk σ) I2 rz hl q2
end
end Bx
/-! Bx12: statements -/
namespace Bx
open PySem PySem.Spec L2
/-- how a statement ends -/
inductive Fl where | nx | br | ct | rt (m : M)
mutual
inductive S where
  | asg (t : Tg) (e : E) | par2 (i j : Nat) (a b : E) | par3 (i j k : Nat) (a b c : E) | aug (i : Nat) (o : Bop) (e : E)
  | app (i : Nat) (e : E) | pop (t : Tg) (i : Nat) | clr (i : Nat) | ext (i : Nat) (e : E) | setI (i : Nat) (k e : E)
  | exp (e : E) | ite (c : Te) (a b : Ss) | fr (z : Option Nat) (t : Tg) (it : Iz) (b : Ss) | wh (c : Te) (b : Ss)
  | ret (e : E) | retN | pas | brk | cnt | rai (c : Nat) (e : Oe)
inductive Ss where
  | nil | cons (s : S) (r : Ss)
end
def setE (i : Nat) (m : M) (ρ : En) : R (Fl × En) := if decide (i < ρ.length) then .ret (.nx, ρ.set i (some m)) else .bad
/-- the slot's list becomes data -/
def frzE : Option Nat → En → En
  | none, ρ => ρ
  | some i, ρ => match ρ[i]? with
    | some (some m) => ρ.set i (some (.fz m.toD))
    | _ => ρ
def slotM (ρ : En) (i : Nat) : Option M := match ρ[i]? with
  | some (some m) => some m
  | _ => none
def olM : Option M → Option (List M)
  | some (.ol l) => some l
  | _ => none
/-- a name's list changed -/
def chgE (ρ : En) (i : Nat) (f : List M → Option (List M)) : R (Fl × En) := match (olM (slotM ρ i)).bind f with
  | some l => .ret (.nx, ρ.set i (some (.ol l)))
  | none => .bad
def popM : List M → Option (M × List M)
  | [] => none
  | m :: l => match (m :: l).getLast? with
    | some z => some (z, (m :: l).dropLast)
    | none => none
def forL (f : D → En → R (Fl × En)) : List D → En → R (Fl × En)
  | [], ρ => .ret (.nx, ρ)
  | x :: xs, ρ => do
    let p ← f x ρ
    match p.1 with
    | .nx => forL f xs p.2
    | .ct => forL f xs p.2
    | .br => .ret (.nx, p.2)
    | .rt m => .ret (.rt m, p.2)
def whL (c : En → R Bool) (f : En → R (Fl × En)) : Nat → En → R (Fl × En)
  | 0, _ => .bad
  | n + 1, ρ => do
    let b ← c ρ
    if b then do
      let p ← f ρ
      match p.1 with
      | .nx => whL c f n p.2
      | .ct => whL c f n p.2
      | .br => .ret (.nx, p.2)
      | .rt m => .ret (.rt m, p.2)
    else .ret (.nx, ρ)
def thenE (p : Fl × En) (k : En → R (Fl × En)) : R (Fl × En) := match p.1 with
  | .nx => k p.2
  | _ => .ret p
def augM (ρ : En) (i : Nat) (o : Bop) (y : M) : R M := match slotM ρ i, y with
  | some (.fz (.int a)), .fz (.int b) => match o with
    | .add => mI (a + b)
    | .sub => mI (a - b)
    | .mul => if fits a || fits b then mI (a * b) else .bad
    | _ => .bad
  | _, _ => .bad
section
variable (Φ : Nat → List D → R M) (fuel : Nat)
mutual
def exS : S → En → R (Fl × En)
  | .asg (.nm i) e, ρ => do
    let m ← evE Φ e false ρ
    setE i m ρ
  | .asg (.tp ts) e, ρ => do
    let m ← evE Φ e false ρ
    bindR (bindT (.tp ts) m.toD ρ) fun ρ' => .ret (.nx, ρ')
  | .par2 i j a b, ρ => do
    let x ← evE Φ a false ρ
    let y ← evE Φ b false ρ
    if decide (i < ρ.length) && decide (j < ρ.length) && decide (i ≠ j) then .ret (.nx, (ρ.set i (some x)).set j (some y)) else .bad
  | .par3 i j k a b c, ρ => do
    let x ← evE Φ a false ρ
    let y ← evE Φ b false ρ
    let z ← evE Φ c false ρ
    if decide (i < ρ.length) && decide (j < ρ.length) && decide (k < ρ.length) && decide (i ≠ j) && decide (i ≠ k) && decide (j ≠ k) then .ret (.nx, ((ρ.set i (some x)).set j (some y)).set k (some z)) else .bad
  | .aug i o e, ρ => do
    let y ← evE Φ e true ρ
    let z ← augM ρ i o y
    setE i z ρ
  | .app i e, ρ => do
    let m ← evE Φ e false ρ
    chgE ρ i fun l => if decide (l.length < sz) then some (l ++ [m]) else none
  | .clr i, ρ => chgE ρ i fun _ => some []
  | .ext i e, ρ => do
    let m ← evE Φ e true ρ
    match lstM m with
    | some k => chgE ρ i fun l => if decide (l.length + k.length ≤ sz) then some (l ++ k.map .fz) else none
    | none => .bad
  | .pop _ _, _ => .bad
  | .setI _ _ _, _ => .bad
  | .exp e, ρ => do
    let _ ← evE Φ e true ρ
    .ret (.nx, ρ)
  | .ite c a b, ρ => do
    let t ← evT Φ c ρ
    if t then exSs a ρ else exSs b ρ
  | .fr z t it b, ρ => do
    let xs ← evIt Φ it false (frzE z ρ)
    forL (fun x ρ => bindR (bindT t x ρ) fun ρ' => exSs b ρ') xs (frzE z ρ)
  | .wh c b, ρ => whL (fun ρ => evT Φ c ρ) (fun ρ => exSs b ρ) fuel ρ
  | .ret e, ρ => do
    let m ← evE Φ e false ρ
    .ret (.rt m, ρ)
  | .retN, ρ => .ret (.rt (.fz .non), ρ)
  | .pas, ρ => .ret (.nx, ρ)
  | .brk, ρ => .ret (.br, ρ)
  | .cnt, ρ => .ret (.ct, ρ)
  | .rai c .no, ρ => .err ⟨c, .non⟩
  | .rai c (.so e), ρ => do
    let m ← evE Φ e false ρ
    .err ⟨c, m.toD⟩
def exSs : Ss → En → R (Fl × En)
  | .nil, ρ => .ret (.nx, ρ)
  | .cons s r, ρ => do
    let p ← exS s ρ
    thenE p fun ρ' => exSs r ρ'
end
end
/-! ### steps -/
section
variable {W : Wd} {F F' F1 H H' H1 : Hp} {A A' A1 : List Addr}
structure Step (W : Wd) (F H : Hp) (A : List Addr) (F' H' : Hp) (A' : List Addr) : Prop where
  ff : Same F F'
  keep : ∀ a o, H a = some o → ¬ W.Gh a → a ∉ A → H' a = some o
  new : ∀ a ∈ A', a ∈ A ∨ H a = none
  nf : ∀ a o, H a = some o → F a = none → a ∉ A → F' a = none
theorem Step.refl : Step W F H A F H A := ⟨Same.refl F, fun _ _ e _ _ => e, fun _ h => .inl h, fun _ _ _ n _ => n⟩
theorem Step.free (s : Step W F H A F1 H1 A1) (st : St0 W F1 H1) (hA : ∀ a ∈ A, H1 a = none → H a = none) {a : Addr} (h : H1 a = none) : H a = none := by
  cases e : H a with
  | none => rfl
  | some o =>
    by_cases q : W.Gh a
    · exact absurd h (st.ghs q)
    · by_cases m : a ∈ A
      · rw [hA a m h] at e; cases e
      · rw [s.keep a o e q m] at h; cases h
end
end Bx
/-! Bx13: statements work out what the small language says -/
namespace Bx
open PySem PySem.Spec L2
section
variable {X : Cx} {W : Wd} {Ex : XK} {F H F' H' F1 H1 F2 H2 : Hp} {A A1 A2 A' : List Addr} {ρ : En} {σ : St} {D0 : Ends}
theorem Step.trans (a : Step W F H A F1 H1 A1) (s1 : St0 W F1 H1) (b : Step W F1 H1 A1 F2 H2 A2) (s2 : St0 W F2 H2) : Step W F H A F2 H2 A2 := by
  have n1 : ∀ x o, H x = some o → x ∉ A → x ∉ A1 := fun x o e n z => (a.new x z).elim n fun q => by rw [q] at e; cases e
  refine ⟨a.ff.trans b.ff, fun x o e g n => b.keep x o (a.keep x o e g n) g (n1 x o e n), fun x hx => ?_, fun x o e f n => ?_⟩
  · rcases b.new x hx with z | z
    · exact a.new x z
    · by_cases m : x ∈ A
      · exact .inl m
      · refine .inr ?_
        cases e : H x with
        | none => rfl
        | some o =>
          by_cases q : W.Gh x
          · exact absurd z (s1.ghs q)
          · rw [a.keep x o e q m] at z; cases z
  · by_cases q : W.Gh x
    · exact s2.gh x q
    · exact b.nf x o (a.keep x o e q n) (a.nf x o e f n) (n1 x o e n)
theorem Grow.step (g : Grow W F H F1 H1) (sub : ∀ a ∈ A1, a ∈ A ∨ H a = none) : Step W F H A F1 H1 A1 :=
  ⟨g.ff, fun x o e q _ => g.keep x o e q, sub, fun x o e f _ => g.nf x o e f⟩
def SPost (W : Wd) (F H : Hp) (A : List Addr) (D : Ends) (p : Fl × En) : Prop := ∀ F' H' A', Step W F H A F' H' A' → St0 W F' H' → match p.1 with
  | .nx => ∀ σ', Good W F' H' A' p.2 σ' → D.nx σ' H'
  | .br => ∀ σ', Good W F' H' A' p.2 σ' → D.bk σ' H'
  | .ct => ∀ σ', Good W F' H' A' p.2 σ' → D.ct σ' H'
  | .rt m => ∀ v, RepM W F' H' A' v m → A'.Nodup → D.rt v H'
def SErr (W : Wd) (F H : Hp) (A : List Addr) (Ex : XK) (e : Er) : Prop := ∀ cl d F' H' A', Step W F H A F' H' A' → St0 W F' H' → ErR W F' cl d e → Ex cl d H'
/-- a statement that works out r -/
def ST (W : Wd) (Ex : XK) (r : En → R (Fl × En)) : TS := fun D σ H => ∃ F A ρ, Good W F H A ρ σ ∧ (r ρ).wp (SPost W F H A D) (SErr W F H A Ex)
/-- the wish, whatever the slots -/
abbrev Wk0 (Ex : XK) : WX := fun cl d _ H => Ex cl d H
theorem SErr.ew {e : Er} (h : SErr W F H A Ex e) : EW W (Wk0 Ex) F H σ e := fun cl d F' H' g r => h cl d F' H' [] (g.step fun _ z => absurd z (by simp)) g.st r
theorem SErr.step {e : Er} (h : SErr W F H A Ex e) (a : Step W F H A F1 H1 A1) (s : St0 W F1 H1) : SErr W F1 H1 A1 Ex e := fun cl d F' H' A' b s' r => h cl d F' H' A' (a.trans s b s') s' r
theorem ps_imp {st : Stmt} {t t' : TS} (h : PS X st t) (i : ∀ D σ H, t' D σ H → t D σ H) : PS X st t' := ⟨fun pins s σ H D I q => h.run pins s σ H D I (i D σ H q)⟩
theorem pss_imp {st : List Stmt} {t t' : TS} (h : PSs X st t) (i : ∀ D σ H, t' D σ H → t D σ H) : PSs X st t' := ⟨fun pins s σ H D I q => h.run pins s σ H D I (i D σ H q)⟩
theorem XT.useS {β : Type} {pk : Bool} {r : En → R M} {k : M → R β} {QQ : β → Prop} {P : VK} (G : Good W F H A ρ σ) (h : (r ρ >>= k).wp QQ (SErr W F H A Ex))
    (next : ∀ m v F' H' A', Grow W F H F' H' → RepM W F' H' A' v m → Own pk A H A' → (k m).wp QQ (SErr W F H A Ex) → P v H') : XT W (Wk0 Ex) pk r σ H P :=
  ⟨F, A, ρ, G, R.wp_mono (fun m hm v F' H' A' g r o => next m v F' H' A' g r o hm) (fun _ q => q.ew) (R.wp_bind.mp h)⟩
theorem XTt.useS {β : Type} {r : En → R Bool} {k : Bool → R β} {QQ : β → Prop} {P : Bool → Hp → Prop} (G : Good W F H A ρ σ) (h : (r ρ >>= k).wp QQ (SErr W F H A Ex))
    (next : ∀ m F' H', Grow W F H F' H' → (k m).wp QQ (SErr W F H A Ex) → P m H') : XTt W (Wk0 Ex) r σ H P :=
  ⟨F, A, ρ, G, R.wp_mono (fun m hm F' H' g => next m F' H' g hm) (fun _ q => q.ew) (R.wp_bind.mp h)⟩
/-! ### blocks -/
theorem ss_nil : PSs X [] (ST W Ex fun ρ => .ret (.nx, ρ)) := by
  refine pss_imp pss_nil fun D σ H h => ?_
  obtain ⟨F, A, ρ, G, h⟩ := h
  exact h F H A Step.refl G.st σ G
theorem ss_cons {st : Stmt} {rest : List Stmt} {r1 r2 : En → R (Fl × En)} (h1 : PS X st (ST W Ex r1)) (h2 : PSs X rest (ST W Ex r2)) : PSs X (st :: rest) (ST W Ex fun ρ => do
    let p ← r1 ρ
    thenE p r2) := by
  refine pss_imp (pss_cons h1 h2) fun D σ H h => ?_
  obtain ⟨F, A, ρ, G, h⟩ := h
  refine ⟨F, A, ρ, G, R.wp_mono (fun p hp F' H' A' st s' => ?_) (fun _ q => q) (R.wp_bind.mp h)⟩
  obtain ⟨fl, ρ'⟩ := p
  cases fl with
  | nx =>
    intro σ' G'
    exact ⟨F', A', ρ', G', R.wp_mono (fun q hq F2 H2 A2 st2 s2 => hq F2 H2 A2 (st.trans s' st2 s2) s2) (fun _ q => q.step st s') hp⟩
  | br => exact hp F' H' A' st s'
  | ct => exact hp F' H' A' st s'
  | rt m => exact hp F' H' A' st s'
theorem ss_pass {pos : Pos} : PS X (.Pass pos) (ST W Ex fun ρ => .ret (.nx, ρ)) := by
  refine ps_imp ps_pass fun D σ H h => ?_
  obtain ⟨F, A, ρ, G, h⟩ := h
  exact h F H A Step.refl G.st σ G
theorem ss_break {pos : Pos} : PS X (.Break pos) (ST W Ex fun ρ => .ret (.br, ρ)) := by
  refine ps_imp ps_break fun D σ H h => ?_
  obtain ⟨F, A, ρ, G, h⟩ := h
  exact h F H A Step.refl G.st σ G
theorem ss_continue {pos : Pos} : PS X (.Continue pos) (ST W Ex fun ρ => .ret (.ct, ρ)) := by
  refine ps_imp ps_continue fun D σ H h => ?_
  obtain ⟨F, A, ρ, G, h⟩ := h
  exact h F H A Step.refl G.st σ G
theorem ss_exp {e : Expr} {pos : Pos} {re : En → R M} (he : PE X e (XT W (Wk0 Ex) true re)) (hs : swapsWith e none pos.line X.env = pure false) : PS X (.Expr e pos) (ST W Ex fun ρ => do
    let _ ← re ρ
    .ret (.nx, ρ)) := by
  refine ps_imp (ps_expr he hs) fun D σ H h => ?_
  obtain ⟨F, A, ρ, G, h⟩ := h
  exact XT.useS G h fun m v F1 H1 A1 g1 r1 o1 h1 => h1 F1 H1 A (g1.step fun _ z => .inl z) g1.st σ (G.grow g1)
theorem ss_ret {e : Expr} {pos : Pos} {re : En → R M} (he : PE X e (XT W (Wk0 Ex) false re)) : PS X (.Return (some e) pos) (ST W Ex fun ρ => do
    let m ← re ρ
    .ret (.rt m, ρ)) := by
  refine ps_imp (ps_ret he) fun D σ H h => ?_
  obtain ⟨F, A, ρ, G, h⟩ := h
  exact XT.useS G h fun m v F1 H1 A1 g1 r1 o1 h1 => h1 F1 H1 A1 (g1.step fun a z => .inr (o1.fresh a z)) g1.st v r1 (o1.2 rfl)
theorem ss_retN {pos : Pos} : PS X (.Return none pos) (ST W Ex fun ρ => .ret (.rt (.fz .non), ρ)) := by
  refine ps_imp ps_retN fun D σ H h => ?_
  obtain ⟨F, A, ρ, G, h⟩ := h
  exact h F H [] ⟨Same.refl F, fun _ _ e _ _ => e, fun _ z => absurd z (by simp), fun _ _ _ n _ => n⟩ G.st .non (.fz .non) List.nodup_nil
theorem ss_if {c : Expr} {a b : List Stmt} {pos : Pos} {rc : En → R Bool} {ra rb : En → R (Fl × En)} (hc : PT X c (XTt W (Wk0 Ex) rc)) (ha : PSs X a (ST W Ex ra)) (hb : PSs X b (ST W Ex rb)) : PS X (.If c a b pos) (ST W Ex fun ρ => do
    let t ← rc ρ
    if t then ra ρ else rb ρ) := by
  refine ps_imp (ps_if hc ha hb) fun D σ H h => ?_
  obtain ⟨F, A, ρ, G, h⟩ := h
  refine XTt.useS G h fun t F1 H1 g1 h1 => ?_
  have st : Step W F H A F1 H1 A := g1.step fun _ z => .inl z
  cases t with
  | true =>
    rw [if_pos rfl] at h1 ⊢
    exact ⟨F1, A, ρ, G.grow g1, R.wp_mono (fun q hq F2 H2 A2 st2 s2 => hq F2 H2 A2 (st.trans g1.st st2 s2) s2) (fun _ q => q.step st g1.st) h1⟩
  | false =>
    rw [if_neg Bool.false_ne_true] at h1 ⊢
    exact ⟨F1, A, ρ, G.grow g1, R.wp_mono (fun q hq F2 H2 A2 st2 s2 => hq F2 H2 A2 (st.trans g1.st st2 s2) s2) (fun _ q => q.step st g1.st) h1⟩
/-! ### stores -/
theorem setE_fin {i : Nat} {m : M} {Q : Fl × En → Prop} {E : Er → Prop} (h : (setE i m ρ).wp Q E) : i < ρ.length ∧ Q (.nx, ρ.set i (some m)) := by
  unfold setE at h
  split at h
  · rename_i hc
    exact ⟨of_decide_eq_true hc, h⟩
  · exact h.elim
/-- a new value in a slot -/
theorem store_fin {i : Nat} {m : M} {v : V} (G : Good W F H A ρ σ) (g1 : Grow W F H F1 H1) (r1 : RepM W F1 H1 A1 v m) (o1 : Own false A H A1) (h : (setE i m ρ).wp (SPost W F H A D0) (SErr W F H A Ex)) : D0.nx (σ.set i (some v)) H1 := by
  obtain ⟨hi, q⟩ := setE_fin h
  obtain ⟨A', G', sub⟩ := G.set hi g1 r1 (o1.2 rfl) o1.fresh
  exact q F1 H1 A' (g1.step sub) g1.st _ G'
theorem ss_set {i : Nat} {x : Str} {e : Expr} {pos pos' : Pos} {re : En → R M} (hN : X.N.Nodup) (hi : X.N[i]? = some x) (hx : Loc X.env.scope x) (he : PE X e (XT W (Wk0 Ex) false re)) (hs : swapsWith e (some (.Name x pos')) pos.line X.env = pure false) (hf : X.fn x = true ∨ X.env.scope.names.lookup x = some .local) :
    PS X (.Assign [.Name x pos'] e pos) (ST W Ex fun ρ => do
      let m ← re ρ
      setE i m ρ) := by
  refine ps_imp (ps_set hN hi hx he hs hf) fun D σ H h => ?_
  obtain ⟨F, A, ρ, G, h⟩ := h
  exact XT.useS G h fun m v F1 H1 A1 g1 r1 o1 h1 => store_fin G g1 r1 o1 h1
/-- the same where the comprehension's store is exchanged -/
theorem ss_setT {i : Nat} {st : Stmt} {re : En → R M} (h0 : PS X st (tAsg (XT W (Wk0 Ex) false re) (gName i))) : PS X st (ST W Ex fun ρ => do
      let m ← re ρ
      setE i m ρ) := by
  refine ps_imp h0 fun D σ H h => ?_
  obtain ⟨F, A, ρ, G, h⟩ := h
  exact XT.useS G h fun m v F1 H1 A1 g1 r1 o1 h1 => store_fin G g1 r1 o1 h1
theorem ss_asgT {ts : List Tg} {tg e : Expr} {pos : Pos} {re : En → R M} (he : PE X e (XT W (Wk0 Ex) false re)) (hg : PG X tg (XG W (.tp ts))) (hs : swapsWithSole [tg] e pos.line X.env = pure false) (hw : swappedStores [tg] e X.env = pure none)
    (h1 : (assignEach [tg] X.env).map (·.2) = [assign tg X.env]) : PS X (.Assign [tg] e pos) (ST W Ex fun ρ => do
      let m ← re ρ
      bindR (bindT (.tp ts) m.toD ρ) fun ρ' => .ret (.nx, ρ')) := by
  refine ps_imp (ps_asg he hg hs hw h1) fun D σ H h => ?_
  obtain ⟨F, A, ρ, G, h⟩ := h
  refine XT.useS G h fun m v F1 H1 A1 g1 r1 o1 h1 => ?_
  have g2 := Grow.frz g1.st g1 r1.owns o1.fresh
  cases eb : bindT (.tp ts) m.toD ρ with
  | none => rw [eb] at h1; exact h1.elim
  | some ρ' =>
    rw [eb] at h1
    exact ⟨_, A, ρ, _, ρ', G.grow g2, r1.frz' m, eb, fun σ' A' G' sub _ => h1 _ H1 A' (g2.step fun a z => .inl (sub a z)) g2.st σ' G'⟩
theorem ss_par2 {i j : Nat} {x y : Str} {a b : Expr} {px py pt pos : Pos} {kt k2 pt2} {ra rb : En → R M} (hc : X.calm = true) (hN : X.N.Nodup) (hi : X.N[i]? = some x) (hj : X.N[j]? = some y) (hij : i ≠ j)
    (hx : X.env.scope.names.lookup x = some .local) (hy : X.env.scope.names.lookup y = some .local) (ha : PE X a (XT W (Wk0 Ex) false ra)) (hb : PE X b (XT W (Wk0 Ex) false rb))
    (he : starEach [a, b] X.env = (false, eval a X.env) :: starEach [b] X.env) (he2 : starEach [b] X.env = (false, eval b X.env) :: starEach [] X.env)
    (hw : swappedStores [.Tuple [.Name x px, .Name y py] kt pt] (.Tuple [a, b] k2 pt2) X.env = pure (some [x, y]))
    (hs : swapsWithSole [.Tuple [.Name x px, .Name y py] kt pt] (.Tuple [a, b] k2 pt2) pos.line X.env = pure false) :
    PS X (.Assign [.Tuple [.Name x px, .Name y py] kt pt] (.Tuple [a, b] k2 pt2) pos) (ST W Ex fun ρ => do
      let x ← ra ρ
      let y ← rb ρ
      if decide (i < ρ.length) && decide (j < ρ.length) && decide (i ≠ j) then .ret (.nx, (ρ.set i (some x)).set j (some y)) else .bad) := by
  refine ps_imp (ps_par hc hN hi hj hij hx hy (pa_cons ha (pa_cons hb pa_nil he2) he) hw hs) fun D σ H h => ?_
  obtain ⟨F, A, ρ, G, h⟩ := h
  refine XT.useS G h fun m v F1 H1 A1 g1 r1 o1 h1 => ?_
  have st1 : Step W F H A F1 H1 A := g1.step fun _ z => .inl z
  have h1' := R.wp_mono (fun _ q => q) (fun _ (q : SErr W F H A Ex _) => q.step st1 g1.st) h1
  refine XT.useS (G.grow g1) h1' fun m2 v2 F2 H2 A2 g2 r2 o2 h2 => ?_
  split at h2
  · rename_i hcc
    simp only [Bool.and_eq_true, decide_eq_true_eq] at hcc
    obtain ⟨B, GB, subB⟩ := G.set hcc.1.1 g1 r1 (o1.2 rfl) o1.fresh
    obtain ⟨C, GC, subC⟩ := GB.set (i := j) (by rw [List.length_set]; exact hcc.1.2) g2 r2 (o2.2 rfl) o2.fresh
    refine ⟨v, v2, rfl, h2 F2 H2 C ((g1.trans g2).step fun a ha => ?_) g2.st _ GC⟩
    exact (subC a ha).elim (subB a) fun z => .inr (g1.free z)
  · exact h2.elim
theorem ss_par3 {i j k : Nat} {x y z : Str} {a b c : Expr} {px py pz pt pos : Pos} {kt k2 pt2} {ra rb rc : En → R M} (hc : X.calm = true) (hN : X.N.Nodup) (hi : X.N[i]? = some x) (hj : X.N[j]? = some y) (hk : X.N[k]? = some z) (hij : i ≠ j) (hik : i ≠ k) (hjk : j ≠ k)
    (hx : X.env.scope.names.lookup x = some .local) (hy : X.env.scope.names.lookup y = some .local) (hz : X.env.scope.names.lookup z = some .local) (ha : PE X a (XT W (Wk0 Ex) false ra)) (hb : PE X b (XT W (Wk0 Ex) false rb)) (hcc : PE X c (XT W (Wk0 Ex) false rc))
    (he : starEach [a, b, c] X.env = (false, eval a X.env) :: starEach [b, c] X.env) (he2 : starEach [b, c] X.env = (false, eval b X.env) :: starEach [c] X.env) (he3 : starEach [c] X.env = (false, eval c X.env) :: starEach [] X.env)
    (hw : swappedStores [.Tuple [.Name x px, .Name y py, .Name z pz] kt pt] (.Tuple [a, b, c] k2 pt2) X.env = pure (some [x, y, z]))
    (hs : swapsWithSole [.Tuple [.Name x px, .Name y py, .Name z pz] kt pt] (.Tuple [a, b, c] k2 pt2) pos.line X.env = pure false) :
    PS X (.Assign [.Tuple [.Name x px, .Name y py, .Name z pz] kt pt] (.Tuple [a, b, c] k2 pt2) pos) (ST W Ex fun ρ => do
      let x ← ra ρ
      let y ← rb ρ
      let z ← rc ρ
      if decide (i < ρ.length) && decide (j < ρ.length) && decide (k < ρ.length) && decide (i ≠ j) && decide (i ≠ k) && decide (j ≠ k) then .ret (.nx, ((ρ.set i (some x)).set j (some y)).set k (some z)) else .bad) := by
  refine ps_imp (ps_par3 hc hN hi hj hk hij hik hjk hx hy hz (pa_cons ha (pa_cons hb (pa_cons hcc pa_nil he3) he2) he) hw hs) fun D σ H h => ?_
  obtain ⟨F, A, ρ, G, h⟩ := h
  refine XT.useS G h fun m v F1 H1 A1 g1 r1 o1 h1 => ?_
  have st1 : Step W F H A F1 H1 A := g1.step fun _ z => .inl z
  have h1' := R.wp_mono (fun _ q => q) (fun _ (q : SErr W F H A Ex _) => q.step st1 g1.st) h1
  refine XT.useS (G.grow g1) h1' fun m2 v2 F2 H2 A2 g2 r2 o2 h2 => ?_
  have st2 : Step W F1 H1 A F2 H2 A := g2.step fun _ z => .inl z
  have h2' := R.wp_mono (fun _ q => q) (fun _ (q : SErr W F1 H1 A Ex _) => q.step st2 g2.st) h2
  refine XT.useS ((G.grow g1).grow g2) h2' fun m3 v3 F3 H3 A3 g3 r3 o3 h3 => ?_
  split at h3
  · rename_i hd
    simp only [Bool.and_eq_true, decide_eq_true_eq] at hd
    obtain ⟨B, GB, subB⟩ := G.set hd.1.1.1.1.1 g1 r1 (o1.2 rfl) o1.fresh
    obtain ⟨C, GC, subC⟩ := GB.set (i := j) (by rw [List.length_set]; exact hd.1.1.1.1.2) g2 r2 (o2.2 rfl) o2.fresh
    obtain ⟨E, GE, subE⟩ := GC.set (i := k) (by rw [List.length_set, List.length_set]; exact hd.1.1.1.2) g3 r3 (o3.2 rfl) o3.fresh
    refine ⟨v, v2, v3, rfl, h3 F3 H3 E (((g1.trans g2).trans g3).step fun a ha => ?_) g3.st _ GE⟩
    exact (subE a ha).elim (fun z => (subC a z).elim (subB a) fun z => .inr (g1.free z)) fun z => .inr ((g1.trans g2).free z)
  · exact h3.elim
end
end Bx
/-! Bx14: statements that change, loops -/
namespace Bx
open PySem PySem.Spec L2
def slotI (ρ : En) (i : Nat) : Option Int := match slotM ρ i with
  | some (.fz (.int a)) => some a
  | _ => none
def augI (o : Bop) (a : Int) : M → R M
  | .fz (.int b) => match o with
    | .add => mI (a + b)
    | .sub => mI (a - b)
    | .mul => if fits a || fits b then mI (a * b) else .bad
    | _ => .bad
  | _ => .bad
def augR (i : Nat) (o : Bop) (re : En → R M) : En → R (Fl × En) := fun ρ => match slotI ρ i with
  | some a => do
    let y ← re ρ
    let z ← augI o a y
    setE i z ρ
  | none => .bad
theorem set_same {α : Type} {l : List α} {i : Nat} {x : α} (h : l[i]? = some x) : l.set i x = l := by
  refine List.ext_getElem? fun j => ?_
  by_cases e : i = j
  · subst e
    rw [List.getElem?_set_self (List.getElem?_eq_some_iff.mp h).1, h]
  · rw [List.getElem?_set_ne e]
section
variable {X : Cx} {W : Wd} {Ex : XK} {F H F' H' F1 H1 F2 H2 : Hp} {A A1 A2 A' : List Addr} {ρ : En} {σ : St} {D0 : Ends}
theorem slot_get {i : Nat} {m : M} (G : Good W F H A ρ σ) (e : slotM ρ i = some m) : ∃ v Am, σ[i]? = some (some v) ∧ RepM W F H Am v m := by
  unfold slotM at e
  split at e
  · rename_i m' em
    cases e
    obtain ⟨v, Am, h1, h2, _⟩ := G.sl.get em
    exact ⟨v, Am, h1, h2⟩
  · cases e
theorem slotI_get {i : Nat} {a : Int} (G : Good W F H A ρ σ) (e : slotI ρ i = some a) : σ[i]? = some (some (.int a)) := by
  unfold slotI at e
  split at e
  · rename_i em
    cases e
    obtain ⟨v, Am, h1, h2⟩ := slot_get G em
    rw [int_rep h2] at h1
    exact h1
  · cases e
theorem augI_ret (o : Bop) (a : Int) (y : M) : isRet (augI o a y) = true := by
  unfold augI
  repeat' split
  all_goals rfl
theorem ss_aug {i : Nat} {x : Str} {e : Expr} {o : Bop} {pos pos' : Pos} {re : En → R M} (hN : X.N.Nodup) (hi : X.N[i]? = some x) (hx : Loc X.env.scope x) (he : PE X e (XT W (Wk0 Ex) true re)) (ho : o = .add ∨ o = .sub ∨ o = .mul) (hf : X.fn x = true ∨ X.env.scope.names.lookup x = some .local) :
    PS X (.AugAssign (.Name x pos') o.py e pos) (ST W Ex (augR i o re)) := by
  have hop : ∃ ti : TIp, PIp X o.py ti ∧ ∀ (a b : Int) (H : Hp) (Q : VK) (z : M), augI o a (.fz (.int b)) = .ret z → (∀ c : Int, z = .fz (.int c) → Q (.int c) H) → ti (.int a) (.int b) H Q := by
    rcases ho with rfl | rfl | rfl
    · exact ⟨_, ip_add, fun a b H Q z ez q => by cases ez; exact ⟨a, b, rfl, rfl, q _ rfl⟩⟩
    · exact ⟨_, ip_sub, fun a b H Q z ez q => by cases ez; exact ⟨a, b, rfl, rfl, q _ rfl⟩⟩
    · refine ⟨fun x y H Q => rI CMul (fun i j => .int (i * j)) x y H Q, fun pins s σ H x y v u Q I r1 r2 h => iop_mul pins s σ H x y v u Q I r1 r2 h, fun a b H Q z ez q => ?_⟩
      unfold augI at ez
      simp only at ez
      split at ez
      · rename_i hc
        cases ez
        exact ⟨a, b, rfl, rfl, fits_mul hc, q _ rfl⟩
      · cases ez
  obtain ⟨ti, hp, hti⟩ := hop
  refine ps_imp (ps_aug hN hi hx he hp hf) fun D σ H h => ?_
  obtain ⟨F, A, ρ, G, h⟩ := h
  unfold augR at h
  split at h
  · rename_i a es
    refine ⟨_, slotI_get G es, XT.useS G h fun m v F1 H1 A1 g1 r1 o1 h1 => ?_⟩
    obtain ⟨z, ez, q⟩ := isRet_wp (augI_ret o a m) (R.wp_bind.mp h1)
    have hm : ∃ b, m = .fz (.int b) := by
      unfold augI at ez
      split at ez
      · exact ⟨_, rfl⟩
      · cases ez
    obtain ⟨b, rfl⟩ := hm
    rw [int_rep r1]
    refine hti a b H1 _ z ez fun c ec => ?_
    subst ec
    exact store_fin (A1 := []) G g1 (.fz (.int c)) .nil q
  · exact h.elim
/-! ### a list in a slot is changed -/
theorem olM_slot {i : Nat} {ms : List M} (e : olM (slotM ρ i) = some ms) : ρ[i]? = some (some (.ol ms)) := by
  unfold slotM at e
  split at e
  · rename_i m em
    unfold olM at e
    split at e
    · rename_i l el
      cases e
      cases el
      exact em
    · cases e
  · cases e
/-- the list at p, which the slot i owns, becomes xs2 -/
theorem Good.chg {i : Nat} {ms : List M} (G : Good W F H A ρ σ) (e : ρ[i]? = some (some (.ol ms))) :
    ∃ p Am xs, σ[i]? = some (some (.ref p)) ∧ H p = some (.lst xs) ∧ p ∈ A ∧ RepMs W F H Am xs ms ∧ (∀ a ∈ Am, a ∈ A) ∧ Am.Nodup ∧
      ∀ {F1 H1 : Hp} {B : List Addr} {xs2 : List V} {ms2 : List M}, Grow W F H F1 H1 → RepMs W F1 H1 B xs2 ms2 → B.Nodup → (∀ a ∈ B, a ∈ Am ∨ H a = none) →
        ∃ A', Good W F1 (upd H1 p (.lst xs2)) A' (ρ.set i (some (.ol ms2))) σ ∧ Step W F H A F1 (upd H1 p (.lst xs2)) A' := by
  have hi := (List.getElem?_eq_some_iff.mp e).1
  obtain ⟨L1, Lm, L2', eA, h1, _, h3, _⟩ := G.sl.at hi
  obtain ⟨v, ev, r⟩ := h1 _ e
  subst eA
  have o := G.sl.owns
  have nd := G.nd
  cases r with
  | @ol p Am xs _ hp hf hg hr =>
    refine ⟨p, Am, xs, ev, hp, by simp, hr, fun a ha => by simp [ha], (List.nodup_cons.mp (List.nodup_append.mp (List.nodup_append.mp nd).2.1).1).2, fun {F1 H1 B xs2 ms2} g r2 ndB nw => ?_⟩
    have hgp : ¬ W.Gh p := hg
    have hF1 : F1 p = none := g.nf p _ hp hf
    have nB : ∀ a ∈ B, a ≠ p := fun a ha z => by
      subst z
      rcases nw a ha with q | q
      · rw [List.nodup_append] at nd
        have := (List.nodup_append.mp nd.2.1).1
        exact (List.nodup_cons.mp this).1 q
      · rw [hp] at q; cases q
    have st2 : St0 W F1 (upd H1 p (.lst xs2)) := ⟨fun a x e => by rw [upd_ne (ne_of_none e hF1)]; exact g.st.fh _ _ e, W.stab _ _ _ _ g.st.wi (Same.refl F1) (fun a q => by rw [upd_ne fun z => hgp (by rw [← z]; exact q)]), g.st.gh⟩
    have rep2 : RepM W F1 (upd H1 p (.lst xs2)) (p :: B) (.ref p) (.ol ms2) := .ol upd_same hF1 hgp (r2.keep (keeps_upd nB _))
    have hnA : ∀ a ∈ L1 ++ L2', a ≠ p := fun a ha z => by
      subst z
      rw [List.nodup_append] at nd
      obtain ⟨n1, n2, n3⟩ := nd
      rcases List.mem_append.mp ha with q | q
      · exact n3 a q a (by simp) rfl
      · rw [List.nodup_append] at n2
        exact n2.2.2 a (by simp) a q rfl
    have sub1 : ∀ a ∈ L1 ++ L2', a ∈ L1 ++ ((p :: Am) ++ L2') := fun a ha => by
      rcases List.mem_append.mp ha with z | z
      · exact List.mem_append_left _ z
      · exact List.mem_append_right _ (List.mem_append_right _ z)
    have kp : Keeps F H F1 (upd H1 p (.lst xs2)) (L1 ++ L2') := by
      have k := (g.keeps o).sub sub1
      exact ⟨k.1, fun a ha x e => by rw [upd_ne (hnA a ha)]; exact k.2.1 a ha x e, k.2.2⟩
    have sl := h3 F1 (upd H1 p (.lst xs2)) (p :: B) (.ref p) (.ol ms2) kp rep2
    rw [set_same ev] at sl
    have sub2 : ∀ a ∈ L1 ++ ((p :: B) ++ L2'), a ∈ L1 ++ ((p :: Am) ++ L2') ∨ H a = none := fun a ha => by
      rcases List.mem_append.mp ha with z | z
      · exact .inl (List.mem_append_left _ z)
      · rcases List.mem_append.mp z with z | z
        · rcases List.mem_cons.mp z with z | z
          · subst z; exact .inl (by simp)
          · exact (nw a z).imp (fun q => by simp [q]) id
        · exact .inl (by simp [z])
    have ndd : (L1 ++ ((p :: B) ++ L2')).Nodup := by
      rw [List.nodup_append] at nd ⊢
      obtain ⟨n1, n2, n3⟩ := nd
      rw [List.nodup_append] at n2
      obtain ⟨n4, n5, n6⟩ := n2
      have n4' := List.nodup_cons.mp n4
      have ow : ∀ a ∈ L1 ++ L2', H a ≠ none := fun a ha z => by
        obtain ⟨x, hx⟩ := (o a (sub1 a ha)).1
        rw [z] at hx; cases hx
      refine ⟨n1, List.nodup_append.mpr ⟨List.nodup_cons.mpr ⟨fun z => nB p z rfl, ndB⟩, n5, fun a ha b hb z => ?_⟩, fun a ha b hb z => ?_⟩
      · subst z
        rcases List.mem_cons.mp ha with z | z
        · subst z; exact n6 a (by simp) a hb rfl
        · rcases nw a z with q | q
          · exact n6 a (by simp [q]) a hb rfl
          · exact ow a (List.mem_append_right _ hb) q
      · subst z
        rcases List.mem_append.mp hb with hb | hb
        · rcases List.mem_cons.mp hb with z | z
          · subst z; exact n3 a ha a (by simp) rfl
          · rcases nw a z with q | q
            · exact n3 a ha a (by simp [q]) rfl
            · exact ow a (List.mem_append_left _ ha) q
        · exact n3 a ha a (by simp [hb]) rfl
    refine ⟨_, ⟨st2, sl, ndd⟩, g.ff, fun a x e q n => ?_, sub2, fun a x e f _ => g.nf a x e f⟩
    have : a ≠ p := fun z => n (by rw [z]; simp)
    rw [upd_ne this]
    exact g.keep a x e q
end
end Bx
/-! Bx15: append, clear, extend; for, while -/
namespace Bx
open PySem PySem.Spec L2
def appR (i : Nat) (re : En → R M) : En → R (Fl × En) := fun ρ => match olM (slotM ρ i) with
  | some l => do
    let m ← re ρ
    if decide (l.length < sz) then .ret (.nx, ρ.set i (some (.ol (l ++ [m])))) else .bad
  | none => .bad
def clrR (i : Nat) : En → R (Fl × En) := fun ρ => match olM (slotM ρ i) with
  | some _ => .ret (.nx, ρ.set i (some (.ol [])))
  | none => .bad
def extR (i : Nat) (re : En → R M) : En → R (Fl × En) := fun ρ => match olM (slotM ρ i) with
  | some l => do
    let m ← re ρ
    match lstM m with
    | some k => if decide (l.length + k.length ≤ sz) then .ret (.nx, ρ.set i (some (.ol (l ++ k.map .fz)))) else .bad
    | none => .bad
  | none => .bad
section
variable {X : Cx} {W : Wd} {Ex : XK} {F H F' H' F1 H1 F2 H2 : Hp} {A A1 A2 A' : List Addr} {ρ : En} {σ : St} {D0 : Ends} {pk : Bool}
theorem noSwapCall {f : Expr} {as : List Expr} {pos : Pos} {l : Nat} : swapsWith (.Call f as [] pos) none l X.env = pure false := rfl
theorem ss_app {i : Nat} {x : Str} {e : Expr} {pos pos' apos cpos : Pos} {re : En → R M} (hi : X.N[i]? = some x) (hv : Vis X.env.scope x) (hd : (x == ("__debug__" : Str)) = false) (hcd : (x == ("__classdict__" : Str)) = false) (hK : X.K = W.K) (he : PE X e (XT W (Wk0 Ex) false re))
    (hbase : attributeBase (.Name x pos') "append" X.env (eval (.Name x pos') X.env) = eval (.Name x pos') X.env)
    (hfew : ((backTo cpos (starEach [e] X.env)).all (fun x => !x.1) && (backToKw cpos (keywordEach [] X.env)).all (fun x => x.1.isSome) && decide (([e] : List Expr).length + ([] : List Keyword).length + (if ([] : List Keyword).isEmpty then 0 else 1) < 30)) = true)
    (hline : (apos.endLine == cpos.line) = true) (hs : starEach [e] X.env = (false, eval e X.env) :: starEach [] X.env) (hpl : (backTo cpos (starEach [] X.env)).any (·.1) = false) :
    PS X (.Expr (.Call (.Attribute (.Name x pos') "append" apos) [e] [] cpos) pos) (ST W Ex (appR i re)) := by
  refine ps_imp (ps_expr (pe_bm PySem.F.plainAttrs_list PySem.F.slot_list_append PySem.F.type_list_append mt_append (pe_var hi hv hd hcd) (pa_cons he pa_nil hs) hbase hfew hline hs hpl) noSwapCall) fun D σ H h => ?_
  obtain ⟨F, A, ρ, G, h⟩ := h
  unfold appR at h
  split at h
  · rename_i l el
    have es := olM_slot el
    obtain ⟨p, Am, xs, ev, hp, hpA, rm, sub, ndm, k⟩ := G.chg es
    refine ⟨_, ev, .inl ⟨rfl, xs, sqL_of hp⟩, XT.useS G h fun m v F1 H1 A1 g1 r1 o1 h1 => ?_⟩
    split at h1
    · rename_i hc
      have hpG : ¬ W.Gh p := (G.sl.owns p hpA).2.2
      have hp1 := g1.keep p _ hp hpG
      have gr := rm.grow g1
      refine ⟨p, xs, v, rfl, rfl, hp1, ?_, ?_⟩
      · rw [rm.length]; exact sz_lt (Nat.le_of_lt (of_decide_eq_true hc))
      · have ra : RepMs W F1 H1 (Am ++ A1) (xs ++ [v]) (l ++ [m]) := gr.append (by simpa using RepMs.cons (A := A1) (As := []) r1 .nil)
        have n1 : (Am ++ A1).Nodup := by
          refine List.nodup_append.mpr ⟨ndm, o1.2 rfl, fun a ha b hb z => ?_⟩
          subst z
          obtain ⟨x, hx⟩ := (G.sl.owns a (sub a ha)).1
          have hx2 := o1.fresh a hb
          rw [hx] at hx2; cases hx2
        have n2 : ∀ a ∈ Am ++ A1, a ∈ Am ∨ H a = none := fun a ha => (List.mem_append.mp ha).imp id (o1.fresh a)
        obtain ⟨A', G', st⟩ := k g1 ra n1 n2
        exact h1 _ _ _ st G'.st _ G'
    · exact h1.elim
  · exact h.elim
theorem ss_clr {i : Nat} {x : Str} {pos pos' apos cpos : Pos} (hi : X.N[i]? = some x) (hv : Vis X.env.scope x) (hd : (x == ("__debug__" : Str)) = false) (hcd : (x == ("__classdict__" : Str)) = false)
    (hbase : attributeBase (.Name x pos') "clear" X.env (eval (.Name x pos') X.env) = eval (.Name x pos') X.env) (hline : (apos.endLine == cpos.line) = true) :
    PS X (.Expr (.Call (.Attribute (.Name x pos') "clear" apos) [] [] cpos) pos) (ST W Ex (clrR i)) := by
  refine ps_imp (ps_expr (pe_bm0 PySem.F.plainAttrs_list PySem.F.slot_list_clear PySem.F.type_list_clear mt_clear (pe_var hi hv hd hcd) hbase hline) noSwapCall) fun D σ H h => ?_
  obtain ⟨F, A, ρ, G, h⟩ := h
  unfold clrR at h
  split at h
  · rename_i l el
    have es := olM_slot el
    obtain ⟨p, Am, xs, ev, hp, hpA, rm, sub, ndm, k⟩ := G.chg es
    refine ⟨_, ev, .inl ⟨rfl, xs, sqL_of hp⟩, p, xs, rfl, rfl, hp, ?_⟩
    obtain ⟨A', G', st⟩ := k (Grow.refl G.st) .nil List.nodup_nil (fun _ z => absurd z (by simp))
    exact h _ _ _ st G'.st _ G'
  · exact h.elim
theorem ss_ext {i : Nat} {x : Str} {e : Expr} {pos pos' apos cpos : Pos} {re : En → R M} (hi : X.N[i]? = some x) (hv : Vis X.env.scope x) (hd : (x == ("__debug__" : Str)) = false) (hcd : (x == ("__classdict__" : Str)) = false) (he : PE X e (XT W (Wk0 Ex) true re))
    (hbase : attributeBase (.Name x pos') "extend" X.env (eval (.Name x pos') X.env) = eval (.Name x pos') X.env)
    (hfew : ((backTo cpos (starEach [e] X.env)).all (fun x => !x.1) && (backToKw cpos (keywordEach [] X.env)).all (fun x => x.1.isSome) && decide (([e] : List Expr).length + ([] : List Keyword).length + (if ([] : List Keyword).isEmpty then 0 else 1) < 30)) = true)
    (hline : (apos.endLine == cpos.line) = true) (hs : starEach [e] X.env = (false, eval e X.env) :: starEach [] X.env) (hpl : (backTo cpos (starEach [] X.env)).any (·.1) = false) :
    PS X (.Expr (.Call (.Attribute (.Name x pos') "extend" apos) [e] [] cpos) pos) (ST W Ex (extR i re)) := by
  refine ps_imp (ps_expr (pe_bm PySem.F.plainAttrs_list PySem.F.slot_list_extend PySem.F.type_list_extend mt_extend (pe_var hi hv hd hcd) (pa_cons he pa_nil hs) hbase hfew hline hs hpl) noSwapCall) fun D σ H h => ?_
  obtain ⟨F, A, ρ, G, h⟩ := h
  unfold extR at h
  split at h
  · rename_i l el
    have es := olM_slot el
    obtain ⟨p, Am, xs, ev, hp, hpA, rm, sub, ndm, k⟩ := G.chg es
    refine ⟨_, ev, .inl ⟨rfl, xs, sqL_of hp⟩, XT.useS G h fun m v F1 H1 A1 g1 r1 o1 h1 => ?_⟩
    split at h1
    · rename_i ds ed
      split at h1
      · rename_i hc
        have hpG : ¬ W.Gh p := (G.sl.owns p hpA).2.2
        have hp1 := g1.keep p _ hp hpG
        have gr := rm.grow g1
        obtain ⟨b, ys, rfl, hb, hl⟩ := lst_rep g1.st r1 ed
        refine ⟨p, b, xs, ys, rfl, rfl, hp1, hb, ?_, ?_⟩
        · rw [rm.length, hl.length]; exact sz_line (of_decide_eq_true hc)
        · have ra : RepMs W F1 H1 (Am ++ []) (xs ++ ys) (l ++ ds.map .fz) := gr.append (RepMs.fz hl)
          rw [List.append_nil] at ra
          obtain ⟨A', G', st⟩ := k g1 ra ndm (fun a ha => .inl ha)
          exact h1 _ _ _ st G'.st _ G'
      · exact h1.elim
    · exact h1.elim
  · exact h.elim
/-! ### for -/
/-- the slot z becomes data -/
theorem Good.frzS (G : Good W F H A ρ σ) : ∀ z : Option Nat, ∃ F' A', Good W F' H A' (frzE z ρ) σ ∧ Step W F H A F' H A'
  | none => ⟨F, A, G, Step.refl⟩
  | some i => by
    cases ec : slotM ρ i with
    | none =>
      have : frzE (some i) ρ = ρ := by
        show (match ρ[i]? with | some (some m) => ρ.set i (some (.fz m.toD)) | _ => ρ) = ρ
        unfold slotM at ec
        split at ec
        · cases ec
        · rename_i q
          first
            | rfl
            | (split
               · rename_i m em; exact absurd em (q m)
               · rfl)
      rw [this]
      exact ⟨F, A, G, Step.refl⟩
    | some m =>
      have em : ρ[i]? = some (some m) := by
        unfold slotM at ec
        split at ec
        · cases ec; assumption
        · cases ec
      have ez : frzE (some i) ρ = ρ.set i (some (.fz m.toD)) := by
        show (match ρ[i]? with | some (some m) => ρ.set i (some (.fz m.toD)) | _ => ρ) = _
        rw [em]
      rw [ez]
      have hi := (List.getElem?_eq_some_iff.mp em).1
      obtain ⟨L1, Lm, L2', eA, h1, _, h3, _⟩ := G.sl.at hi
      obtain ⟨v, ev, r⟩ := h1 _ em
      subst eA
      have o := G.sl.owns
      have oM : Owns W F H Lm := fun a ha => o a (by simp [ha])
      have st2 := G.st.frz oM
      have nd := G.nd
      rw [List.nodup_append] at nd
      obtain ⟨n1, n2, n3⟩ := nd
      rw [List.nodup_append] at n2
      obtain ⟨n4, n5, n6⟩ := n2
      have hout : ∀ a ∈ L1 ++ L2', a ∉ Lm := fun a ha z => by
        rcases List.mem_append.mp ha with q | q
        · exact n3 a q a (by simp [z]) rfl
        · exact n6 a z a q rfl
      have kp : Keeps F H (frz F H Lm) H (L1 ++ L2') := ⟨frz_same oM, fun a ha x e => e, fun a ha e => by rw [frz_out (hout a ha)]; exact e⟩
      have sl := h3 (frz F H Lm) H [] v (.fz m.toD) kp (.fz (r.frz' m))
      rw [set_same ev] at sl
      refine ⟨frz F H Lm, L1 ++ ([] ++ L2'), ⟨st2, sl, ?_⟩, frz_same oM, fun _ _ e _ _ => e, fun a ha => .inl ?_, fun a x e f n => ?_⟩
      · exact List.nodup_append.mpr ⟨n1, by simpa using n5, fun a ha b hb => n3 a ha b (by simp at hb; simp [hb])⟩
      · rcases List.mem_append.mp ha with q | q
        · exact List.mem_append_left _ q
        · simp at q; simp [q]
      · rw [frz_out fun z => n (by simp [z])]; exact f
/-- what a for has come to -/
structure Fo (W : Wd) (F0 H0 : Hp) (A0 : List Addr) (f : D → En → R (Fl × En)) (ds : List D) (Q : Fl × En → Prop) (E : Er → Prop) (FJ HJ : Hp) (AJ : List Addr) (i : Nat) (σ : St) (H : Hp) : Prop where
  ex : ∃ F A ρ, Step W F0 H0 A0 F H A ∧ Good W F H A ρ σ ∧ Same FJ F ∧ (forL f (ds.drop i) ρ).wp Q E
theorem Step.of_new {F H F1 H1 : Hp} {A A1 : List Addr} (s : Step W F H A F1 H1 A1) : True := trivial
/-- the list that is walked: data -/
def XI0 (W : Wd) (Wx : WX) (r : En → R (List D)) : TI := fun σ H R' => ∃ F A ρ, Good W F H A ρ σ ∧
  (r ρ).wp (fun ds => ∀ F' H' J, Grow W F H F' H' → Wk W F' H' [] ds J → R' J H') (EW W Wx F H σ)
theorem Wk.toF {F H : Hp} {A : List Addr} {ds : List D} {J : It} (w : Wk W F H A ds J) (st : St0 W F H) (o : Owns W F H A) : Wk W (frz F H A) H [] ds J := by
  obtain ⟨n, G, Y, w1, hn, hG, hY⟩ := w.ex
  refine ⟨n, G, Y, w1, hn, fun F2 H2 ff s2 _ => hG F2 H2 ((frz_same o).trans ff) s2 fun a ha x e => ?_, fun i F1 H1 x H2 hi ff s1 y => hY i F1 H1 x H2 hi ((frz_same o).trans ff) s1 y⟩
  have : frz F H A a = some x := by rw [frz_mem ha]; exact e
  exact s2.fh _ _ (ff _ _ this)
theorem px_it0 {tg it : Expr} {Wx : WX} {r : En → R (List D)} (h : PI X tg it (XI W Wx false r)) : PI X tg it (XI0 W Wx r) := by
  refine pi_imp h fun σ H R' q => ?_
  obtain ⟨F, A, ρ, G, q⟩ := q
  refine ⟨F, A, ρ, G, R.wp_mono (fun ds k F' H' A' J g w o n => ?_) (fun _ z => z) q⟩
  exact k _ H' J (Grow.frz g.st g o n.fresh) (w.toF g.st o)
theorem ss_for {z : Option Nat} {t : Tg} {tg iter : Expr} {body : List Stmt} {pos : Pos} {ri : En → R (List D)} {rb : En → R (Fl × En)} (hp : PassesOwn (model X.prog X.w) X.A X.env X.xe) (hc : X.calm = true) (hi : PI X tg iter (XI W (Wk0 Ex) false ri)) (hg : PG X tg (XG W t)) (hb : PSs X body (ST W Ex rb))
    (hs : ∀ x, foldedSetIterable iter X.env x = pure x) : PS X (.For tg iter body [] pos) (ST W Ex fun ρ => do
      let xs ← ri (frzE z ρ)
      forL (fun x ρ => bindR (bindT t x ρ) fun ρ' => rb ρ') xs (frzE z ρ)) := by
  refine ps_imp (ps_for hp hc (px_it0 hi) hg hb hs) fun D σ H h => ?_
  obtain ⟨F, A, ρ, G, h⟩ := h
  obtain ⟨Fz, Az, Gz, sz'⟩ := G.frzS z
  have hw := R.wp_bind.mp h
  refine ⟨Fz, Az, frzE z ρ, Gz, R.wp_mono (fun ds hd F1 H1 J g1 wk => ?_) (fun _ q => (q.step sz' Gz.st).ew) hw⟩
  obtain ⟨n, GG, Y, w, hn, hG, hY⟩ := wk.ex
  have s1 : Step W F H A F1 H1 Az := sz'.trans Gz.st (g1.step fun _ q => .inl q) g1.st
  refine for_it w (Fo W F H A (fun x ρ => bindR (bindT t x ρ) fun ρ' => rb ρ') ds (SPost W F H A D) (SErr W F H A Ex) F1 H1 Az) ⟨F1, Az, frzE z ρ, s1, Gz.grow g1, Same.refl F1, hd⟩ (fun i σ2 H2 _ p => ?_) (fun i x σ2 H2 H3 hi p y => ?_) (fun σ2 H2 p => ?_)
  · obtain ⟨F2, A2, ρ2, st2, G2, ff, _⟩ := p.ex
    exact hG F2 H2 ff G2.st fun a ha => absurd ha (by simp)
  · obtain ⟨F2, A2, ρ2, st2, G2, ff, hw2⟩ := p.ex
    obtain ⟨F3, d, g3, ed, rd⟩ := hY i F2 H2 x H3 hi ff G2.st y
    have edr : ds.drop i = d :: ds.drop (i + 1) := by
      have hlt := (List.getElem?_eq_some_iff.mp ed).1
      rw [List.drop_eq_getElem_cons hlt]
      rw [(List.getElem?_eq_some_iff.mp ed).2]
    rw [edr] at hw2
    have hw3 := R.wp_bind.mp (show R.wp _ _ (_ >>= _) from hw2)
    dsimp only at hw3
    have G3 := G2.grow g3
    have st3 : Step W F H A F3 H3 A2 := st2.trans G2.st (g3.step fun _ q => .inl q) g3.st
    cases eb : bindT t d ρ2 with
    | none => rw [eb] at hw3; exact hw3.elim
    | some ρ' =>
      rw [eb] at hw3
      refine ⟨F3, A2, ρ2, d, ρ', G3, rd, eb, fun σ4 B Gb sb _ => ?_⟩
      have stB : Step W F H A F3 H3 B := st3.trans G3.st ⟨Same.refl _, fun _ _ e _ _ => e, fun a ha => .inl (sb a ha), fun _ _ _ e _ => e⟩ Gb.st
      refine ⟨F3, B, ρ', Gb, R.wp_mono (fun q hq F5 H5 A5 st5 s5 => ?_) (fun _ q => q.step stB Gb.st) hw3⟩
      obtain ⟨fl, ρ5⟩ := q
      have st6 := stB.trans Gb.st st5 s5
      cases fl with
      | nx => exact fun σ5 G5 => ⟨F5, A5, ρ5, st6, G5, ff.trans (g3.ff.trans st5.ff), hq⟩
      | ct => exact fun σ5 G5 => ⟨F5, A5, ρ5, st6, G5, ff.trans (g3.ff.trans st5.ff), hq⟩
      | br => exact fun σ5 G5 => hq F5 H5 A5 st6 s5 σ5 G5
      | rt m => exact hq F5 H5 A5 st6 s5
  · obtain ⟨F2, A2, ρ2, st2, G2, ff, hw2⟩ := p.ex
    subst hn
    rw [List.drop_length] at hw2
    exact hw2 F2 H2 A2 st2 G2.st σ2 G2
/-! ### while -/
theorem ss_while {c : Expr} {body : List Stmt} {pos : Pos} {rc : En → R Bool} {rb : En → R (Fl × En)} (fuel : Nat) (hp : PassesOwn (model X.prog X.w) X.A X.env X.xe) (hc : PT X c (XTt W (Wk0 Ex) rc)) (hb : PSs X body (ST W Ex rb)) :
    PS X (.While c body [] pos) (ST W Ex (whL rc rb fuel)) := by
  refine ps_imp (ps_while hp hc hb) fun D σ H h => ?_
  obtain ⟨F, A, ρ, G, h⟩ := h
  refine ⟨fun n σ1 H1 => ∃ F1 A1 ρ1, Step W F H A F1 H1 A1 ∧ Good W F1 H1 A1 ρ1 σ1 ∧ (whL rc rb n ρ1).wp (SPost W F H A D) (SErr W F H A Ex), ⟨fuel, F, A, ρ, Step.refl, G, h⟩, ?_⟩
  rintro n σ1 H1 ⟨F1, A1, ρ1, st1, G1, hw⟩
  cases n with
  | zero => exact hw.elim
  | succ n =>
    have hw := R.wp_bind.mp (show R.wp _ _ (rc ρ1 >>= _) from hw)
    refine ⟨F1, A1, ρ1, G1, R.wp_mono (fun b hb2 F2 H2 g2 => ?_) (fun _ q => (q.step st1 G1.st).ew) hw⟩
    have st2 : Step W F H A F2 H2 A1 := st1.trans G1.st (g2.step fun _ q => .inl q) g2.st
    have G2 := G1.grow g2
    cases b with
    | false =>
      dsimp only
      rw [if_neg Bool.false_ne_true] at hb2 ⊢
      exact hb2 F2 H2 A1 st2 g2.st σ1 G2
    | true =>
      dsimp only
      rw [if_pos rfl] at hb2 ⊢
      have hb3 := R.wp_bind.mp hb2
      refine ⟨fun σ3 H3 => ∃ F3 A3 ρ3, Step W F H A F3 H3 A3 ∧ Good W F3 H3 A3 ρ3 σ3 ∧ (whL rc rb n ρ3).wp (SPost W F H A D) (SErr W F H A Ex), fun σ' H' k => ⟨n, Nat.lt_succ_self n, k⟩, F2, A1, ρ1, G2, R.wp_mono (fun q hq F5 H5 A5 st5 s5 => ?_) (fun _ q => q.step st2 g2.st) hb3⟩
      obtain ⟨fl, ρ5⟩ := q
      have st6 := st2.trans g2.st st5 s5
      cases fl with
      | nx => exact fun σ5 G5 => ⟨F5, A5, ρ5, st6, G5, hq⟩
      | ct => exact fun σ5 G5 => ⟨F5, A5, ρ5, st6, G5, hq⟩
      | br => exact fun σ5 G5 => hq F5 H5 A5 st6 s5 σ5 G5
      | rt m => exact hq F5 H5 A5 st6 s5
end
end Bx
/-! Bx16: an own error with a field: super().__init__('..'); self.f = f -/
namespace PySem
namespace SupX
open PySem.W PySem.Calls PyProof.Rows PySem.HandSPX
def iA (f : Str) (p1 p2 : Pos) : Arguments := { posonlyargs := [], args := [{ arg := "self", annotation := none, pos := p1 }, { arg := f, annotation := none, pos := p2 }], vararg := none, kwonlyargs := [], kw_defaults := [], kwarg := none, defaults := [] }
structure Ps where
  q1 : Pos
  q2 : Pos
  q3 : Pos
  q4 : Pos
  q5 : Pos
  q6 : Pos
  q7 : Pos
  q8 : Pos
  q9 : Pos
  q10 : Pos
  j : Nat
def iB (f msg : Str) (p : Ps) : List Stmt := [.Expr (.Call (.Attribute (.Call (.Name "super" p.q1) [] [] p.q2) "__init__" p.q3) [.Constant (.str msg) p.j p.q4] [] p.q5) p.q6, .Assign [.Attribute (.Name "self" p.q7) f p.q8] (.Name f p.q9) p.q10]
def iS (f : Str) : Scope := { kind := .function, names := [("self", .local), (f, .local), ("__class__", .free), ("super", .globalImplicit)], isGenerator := false, isCoroutine := false, more := [] }
/-- what is asked of the field's name -/
structure Fld (f : Str) : Prop where
  kS : (iS f).names.lookup ("super" : Str) = some .globalImplicit
  kC : (iS f).names.lookup ("__class__" : Str) = some .free
  kF : (iS f).names.lookup f = some .local
  bS : ∀ x v : Value, [(("self" : Str), x), (f, v)].reverse.lookup ("self" : Str) = some x
  bF : ∀ x v : Value, [(("self" : Str), x), (f, v)].reverse.lookup f = some v
  db : (f == ("__debug__" : Str)) = false
  bd : ∀ (q msg : Str) (p1 p2 : Pos) (p : Ps) (doc pm cda ct : Value) (an : Option Addr) (cc : Addr) (x v : Value), bindArgs (ksFn "__init__" q (iA f p1 p2) (iB f msg p) (iS f) .none .none doc pm an cda ct cc) ⟨[x, v], []⟩ = pure [(("self" : Str), x), (f, v)]
structure SupTxt (prog : Program) (K : Frag) (mg : Str → Option Value) (x : Str) (C fI : Addr) (f msg : Str) : Prop where
  gC : mg x = some (.ref C)
  cls : ∃ nm q N bs bm sn sub ab col dd k0 k1 k2 k3 k5, K.lookup C = some (excClassObj nm q C N bs bm true sn sub ab col dd k0 k1 k2 k3 k5 "ValueError.__new__") ∧ refsVE bm = true
  sa : findIn K (.ref C) "__setattr__" = some (some (.builtin "object.__setattr__"))
  noN : findIn K (.ref C) f = some none
  iC : findIn K (.ref C) "__init__" = some (some (.ref fI))
  tC : typeIn K (.ref fI) = some (.type "function")
  kC : keepIn K (.ref C) = true
  exC : subIn K (.ref C) (.type "BaseException") = some true
  tyC : typeIn K (.ref C) = some (.type "type")
  fn : ∃ (oc : Value) (od : Option Addr) (doc pm : Value) (an : Option Addr) (cda : Addr) (ct : Value) (cc : Addr) (osl : Array (Option Value)) (p1 p2 : Pos) (p : Ps) (q : Str) (ccl : Value) (cdd : Option Addr) (vs : Array Value) (ccs : Array (Option Value)) (file : Str) (tf : Tok) (cl : Value) (cld : Option Addr) (csl : Array (Option Value)),
    K.lookup fI = some ⟨oc, od, .func (ksFn "__init__" q (iA f p1 p2) (iB f msg p) (iS f) .none .none doc pm an (.ref cda) ct cc), osl⟩ ∧ codeIn K (.ref cda) q = true ∧
    K.lookup cda = some ⟨ccl, cdd, .fields vs, ccs⟩ ∧ vs[2]? = some (.str file tf) ∧ ((prog.main.file : Str) == file) = true ∧ K.lookup cc = some ⟨cl, cld, .cell (some (.ref C)), csl⟩ ∧ (p.q3.endLine == p.q5.line) = true
  sub : mroIn K C (.ref C) = some true
  sup : ks_superIn K C C "__init__" = some (some (.builtin "ValueError.__init__"))
  hB : subIn K (.ref C) (.type "ValueError") = some true
  opa : nsIn K cStatics "thirdparty.any" = some none
  mgS : mg "super" = none
  top : (prog.main.scope.names.lookup ("super" : Str)).isSome = false
theorem one_size (v : Value) : [v].length ≤ sizeLine := by
  rw [sizeLine_eq]
  exact (by decide : 1 ≤ 16777216)
/-- what __init__ leaves of a fresh exception at x -/
structure InitEnd (f : Str) (h h' : Heap) (x C dx : Addr) (v : Value) : Prop where
  keep : ∀ b o, b ≠ x → h.get? b = some o → h'.get? b = some o
  obj : ∃ t1, h'.get? x = some { cls := .ref C, dict := some dx, data := .fields #[.ref t1, .none, .none, .none, .bool false, .none] }
  dbig : h.objs.size ≤ dx
  dne : dx ≠ x
  ns : h'.Ns1 dx (fun y => if y = f then some v else none)
structure OwnMade (f : Str) (h h' : Heap) (e C d : Addr) (v : Value) : Prop where
  keep : ∀ b o, h.get? b = some o → h'.get? b = some o
  new : h.objs.size ≤ e
  obj : ∃ oe vs, h'.get? e = some oe ∧ oe.cls = .ref C ∧ oe.dict = some d ∧ oe.data = .fields vs ∧ vs[1]? = some .none
  dbig : h.objs.size ≤ d
  dne : d ≠ e
  ns : h'.Ns1 d (fun y => if y = f then some v else none)
section
variable {prog : Program} {w : World} {A : Around} {E : Value → Shared → Prop} {R : Result → Shared → Prop} {s : Shared} {K : Frag} {mg mb : Str → Option Value} {C fI : Addr} {f msg xn : Str}
/-- super().__init__('..'), raw -/
theorem call_mw {u x t0 : Addr} {rest : List Value} {Q : Value → Shared → Prop} {h : Heap} {g : Array GenState} {d : Drawn} {t : Nat} {os : OsState}
    {nm q : Str} {N : Addr} {bs bm : List Value} {hdct : Bool} {sn : List Str} {sub : List Value} {ab : Bool} {col : Option Bool} {dd : Option Addr} {k0 k1 k2 k3 k5 : Option Value}
    (hC : h.get? C = some (excClassObj nm q C N bs bm hdct sn sub ab col dd k0 k1 k2 k3 k5 "ValueError.__new__")) (he : h.get? x = some (excO C t0)) (hu : h.get? u = some (kxs_mw "ValueError.__init__" x)) (hrest : rest.length ≤ sizeLine)
    (hq : ∀ h' t1, (∀ b o, b ≠ x → h.get? b = some o → h'.get? b = some o) → h'.get? x = some (excO C t1) → Q .none ⟨h', g, d, t, os⟩) :
    wpAny (model prog w) A (call (.ref u) rest) Q E ⟨h, g, d, t, os⟩ := by
  have FB := F.excBase_ValueError
  refine wpAny_call (codeAny_of_tree ?_)
  show wpAny _ A.in1 (callAny (.ref u) ⟨rest, []⟩) _ _ _
  simp only [callAny]
  refine wpAny_bind (wpAny_load hu ?_)
  simp only [kxs_mw, show (Value.type "method-wrapper" == Value.type "method" || Value.type "method-wrapper" == Value.type "builtin_function_or_method" || Value.type "method-wrapper" == Value.type "method-wrapper") = true by decide, if_true]
  refine KFB.if_so (by decide) ?_
  refine wpAny_bind (check_bound_init FB.toExcCallFacts hC he rfl ?_)
  refine wpAny_bind (wpAny_pure (wpAny_pure ?_))
  refine ⟨plainId_quiet FB.init.plain _, codeAny_builtin FB.initEntry ?_⟩
  exact exc_init_tree (cls := .ref C) (t0 := t0) (dv := none) (c2 := .none) (c3 := .none) (b4 := .bool false) he hrest fun h' k e' _ => hq h' _ k e'
theorem sup_init (T : SupTxt prog K mg xn C fI f msg) (FL : Fld f) {x t0 : Addr} {v : Value} {ar : Args} (hbd : ∀ (q : Str) (p1 p2 : Pos) (p : Ps) (doc pm cda ct : Value) (an : Option Addr) (cc : Addr), bindArgs (ksFn "__init__" q (iA f p1 p2) (iB f msg p) (iS f) .none .none doc pm an cda ct cc) ar = pure [(("self" : Str), Value.ref x), (f, v)]) (X : K.In s.heap) (G : s.heap.Ns mainGlobals mg) (B : s.heap.Ns builtinsNs mb) (hb : mb "super" = some (.type "super")) (hlim : s.heap.NoLimit) (hx : s.heap.get? x = some (excO C t0)) (hNx : K.lookup x = none) (hroom : A.depth < recursionLimit)
    (hq : ∀ h' tk dx, InitEnd f s.heap h' x C dx v → R (.ok (.ret .none)) { s with heap := h', toks := tk }) :
    codeAny (model prog w) A (.call (.ref fI) ar) R s := by
  obtain ⟨oc, od, doc, pm, an, cda, ct, cc, osl, p1, p2, p, q, ccl, cdd, vs, ccs, file, tf, cl, cld, csl, ho, hcd, hcode, hvs, hfile, hcell, hline⟩ := T.fn
  obtain ⟨nm, qn, N, bs, bm, sn, sub, ab, col, dd, k0, k1, k2, k3, k5, hC, hbm⟩ := T.cls
  have hcl : clsIn K C = some { name := nm, bases := bs, mro := .ref C :: bm, ns := N, qualname := qn, hasDict := true, slotNames := sn, subclasses := sub, abstract := ab, collection := col, hasDel := false } := by unfold clsIn; rw [hC] <;> rfl
  refine ks_codeAny_call_defAt (fd := ksFn "__init__" q (iA f p1 p2) (iB f msg p) (iS f) .none .none doc pm an (.ref cda) ct cc) (body := iB f msg p) (binds := [("self", .ref x), (f, v)]) hroom (X _ _ ho) rfl hlim (codeRec_of X hcd) rfl (BindsTo.of_eq (hbd _ _ _ _ _ _ _ _ _ _)) ?_ ?_ (fun h₁ hn k => ?_)
  · intro z hz
    simp only [iS, List.mem_cons, List.not_mem_nil, or_false] at hz
    rcases hz with rfl | rfl | rfl | rfl <;> simp
  · intro z hz
    simp only [List.mem_cons, List.not_mem_nil, or_false] at hz
    rcases hz with rfl | rfl
    · rfl
    · exact FL.kF
  have X₁ : K.In h₁ := X.keeps k
  have hx₁ := k _ _ hx
  have hxL : s.heap.objs.size ≠ x := Nat.ne_of_gt (Heap.lt_size hx)
  have hCx : x ≠ C := fun z => by
    have := X _ _ hC
    rw [← z, hx] at this
    cases this
  obtain ⟨hp, g, d, tk, os⟩ := s
  dsimp only at *
  have I1 : W.InstAt h₁ x (excO C t0) C none := ⟨hx₁, rfl, rfl, trivial⟩
  refine ks_wpAt_execs_cons (ks_wpAt_Expr_any ?_)
  show PySem.wpAt _ _ _ (eval (.Call (.Attribute (.Call (.Name "super" p.q1) [] [] p.q2) "__init__" p.q3) [.Constant (.str msg) p.j p.q4] [] p.q5) (ksEnv q (iS f) hp.objs.size fI (.ref cda) cc)) _ _ _
  rw [arm_eval_Call]
  have hform : methodCallForm (([.Constant (.str msg) p.j p.q4] : List Expr).length + ([] : List Keyword).length) (backTo p.q5 (starEach [.Constant (.str msg) p.j p.q4] (ksEnv q (iS f) hp.objs.size fI (.ref cda) cc))) (backToKw p.q5 (keywordEach [] (ksEnv q (iS f) hp.objs.size fI (.ref cda) cc))) = true := rfl
  have hpos : methodCallPos true (.Call (.Name "super" p.q1) [] [] p.q2) (ksEnv q (iS f) hp.objs.size fI (.ref cda) cc) p.q3 p.q5 = pure p.q5 := by unfold methodCallPos; simp [hline]
  unfold methodCall
  rw [hform]
  refine wpAt_bind ?_
  refine ks_wpAt_super_base (env := ksEnv q (iS f) hp.objs.size fI (.ref cda) cc) FL.kS FL.kC (by decide) rfl (X₁ _ _ ho) rfl rfl rfl (X₁ _ _ hcode) rfl hvs hfile T.top ?_
  refine ks_loadName_global rfl FL.kS (loadGlobal_builtin (env := ksEnv q (iS f) hp.objs.size fI (.ref cda) cc) (G.keeps k) T.mgS (B.keeps k) hb ⟨rfl, ?_⟩)
  refine wpAny_loadName_free rfl FL.kC rfl ⟨_, X₁ _ _ hcell, rfl⟩ ?_
  refine wpAny_loadName_local rfl rfl hn (FL.bS _ _) ?_
  refine ks_wpAny_isType_cls (X₁ _ _ hC) rfl ⟨rfl, ?_⟩
  refine ks_wpAny_call_super (X₁ _ _ hC) rfl hx₁ rfl (fun c e => by cases e) (looks_mroIn X₁ T.sub) (fun h₂ e₂ k₂ => ?_)
  have X₂ := X₁.keeps k₂
  have hm := T.sup
  unfold ks_superIn at hm
  rw [hcl] at hm
  have I2 : W.InstAt h₂ x (excO C t0) C none := ⟨k₂ _ _ hx₁, rfl, rfl, trivial⟩
  refine wpAt_of_wpAny (wpAny_bind (wpAny_standAt (wpAny_bind (wpAny_holding ?_))))
  refine kxs_getMethod kxs_ValueError e₂ (looks_opaque X₂ T.opa) (l₀ := .ref C :: bm) (fun A Q E s k q => wpAny_bind ((looks_clsIn X₂ hcl) A _ E s k (wpAny_pure q))) rfl X₂ hm (I2.type.andThen (looks_subIn X₂ T.hB)) hCx (by decide) ?_
  have k₃ : ∀ b o, h₂.get? b = some o → (h₂.push (kxs_mw "ValueError.__init__" x)).get? b = some o := fun b o e => Heap.get?_push_of_some _ e
  refine wpAny_bind (wpAny_of_eq hpos ?_)
  refine kxs_callWith (i := "ValueError.__init__") (x := x) rfl (evalArgs_plain ?_)
  refine spliced_cons (Constant_str (pos := p.q4) (k := p.j) ?_)
  refine spliced_nil ⟨Heap.get?_push_at rfl rfl, ?_⟩
  refine call_mw (k₃ _ _ (X₂ _ _ hC)) (k₃ _ _ (k₂ _ _ hx₁)) (Heap.get?_push_at rfl rfl) (one_size _) fun h₃ t1 k₄ e₄ => ?_
  -- self.f = f
  have kk : ∀ b o, b ≠ x → hp.get? b = some o → h₃.get? b = some o := fun b o hb e => k₄ b o hb (k₃ _ _ (k₂ _ _ (k _ _ e)))
  have X₃ : K.In h₃ := fun b o e => kk b o (fun z => by rw [z, hNx] at e; cases e) (X _ _ e)
  have hn₃ : h₃.Ns hp.objs.size (fun y => [(("self" : Str), Value.ref x), (f, v)].reverse.lookup y) := hn.at fun o e => k₄ _ _ hxL (k₃ _ _ (k₂ _ _ e))
  refine ks_wpAt_execs_cons (ks_wpAt_Assign_Attr (wpAt_of_wpAny ?_))
  refine wpAny_Name (wpAny_loadName_local rfl FL.kF hn₃ (FL.bF _ _) ?_) FL.db
  refine wpAny_Name (wpAny_loadName_local rfl rfl hn₃ (FL.bS _ _) ?_) (by decide)
  refine set_plain X₃ (ox := excO C t1) (od := none) ⟨e₄, rfl, rfl, trivial⟩ T.sa ?_
  refine exc_osa X₃ e₄ hcl (show refsVE (.ref C :: bm) = true from hbm) rfl T.noN (fun h₅ tk₅ dx k₅ dn dne hx₅ hn₅ => ?_)
  have z3 : hp.objs.size ≤ h₃.objs.size := by
    exact Nat.le_of_lt hn₃.lt
  refine wpAt_of_wpAny (wpAny_execs_nil (hq h₅ tk₅ dx ⟨fun b o hb e => k₅ b o hb (kk b o hb e), ⟨t1, hx₅⟩, Nat.le_trans z3 dn, dne, hn₅⟩))
theorem sup_made (T : SupTxt prog K mg xn C fI f msg) (FL : Fld f) {v : Value} (X : K.In s.heap) (G : s.heap.Ns mainGlobals mg) (B : s.heap.Ns builtinsNs mb) (hb : mb "super" = some (.type "super")) (hlim : s.heap.NoLimit) (hroom : A.depth + 1 < recursionLimit)
    (hq : ∀ h' tk e d, OwnMade f s.heap h' e C d v → R (.ok (.ret (.ref e))) { s with heap := h', toks := tk }) :
    codeAny (model prog w) A (.call (.ref C) ⟨[v], []⟩) R s := by
  obtain ⟨nm, q, N, bs, bm, sn, sub, ab, col, dd, k0, k1, k2, k3, k5, hC, hbm⟩ := T.cls
  obtain ⟨hp, g, dr, tk, os⟩ := s
  have k : ∀ b o, hp.get? b = some o → ((hp.push (kdv_tup [v])).push (excO C hp.objs.size)).get? b = some o := fun b o e => Heap.get?_push_of_some _ (Heap.get?_push_of_some _ e)
  have hget : ((hp.push (kdv_tup [v])).push (excO C hp.objs.size)).get? (hp.objs.size + 1) = some (excO C hp.objs.size) := by heap_get
  have hnx : K.lookup (hp.objs.size + 1) = none := by
    cases e : K.lookup (hp.objs.size + 1) with
    | none => rfl
    | some o =>
      have z : hp.get? (hp.objs.size + 1) = some o := X _ _ e
      exact absurd (Nat.lt_of_succ_lt (Heap.lt_size z)) (Nat.lt_irrefl _)
  refine call_own F.excBase_ValueError (fun X => refsVE_contains X bm hbm) (X _ _ hC) (looks_findIn X T.iC) (fun self => bind_fn X self T.tC) (one_size v) ?_
  refine sup_init (s := ⟨(hp.push (kdv_tup [v])).push (excO C hp.objs.size), g, dr, tk, os⟩) T FL (fun _ _ _ _ _ _ _ _ _ _ => FL.bd _ _ _ _ _ _ _ _ _ _ _ _ _) (X.keeps k) (G.keeps k) (B.keeps k) hb (hlim.keeps k) hget hnx ?_ fun h' tk' dx ⟨k', ⟨t1, hx⟩, dn, dne, hns⟩ => ?_
  · show A.depth + 1 < recursionLimit
    exact hroom
  · have old : ∀ b o, hp.get? b = some o → h'.get? b = some o := fun b o e => k' b o (Nat.ne_of_lt (Nat.lt_succ_of_lt (Heap.lt_size e))) (k b o e)
    have z : hp.objs.size + 1 + 1 ≤ dx := by
      first
        | (simpa only [Heap.size_push] using dn)
        | exact dn
        | (have q := dn; rw [Heap.size_push, Heap.size_push] at q; exact q)
    exact ⟨rfl, hq h' tk' (hp.objs.size + 1) dx ⟨old, Nat.le_succ _, ⟨_, _, hx, rfl, rfl, rfl, rfl⟩, Nat.le_trans (Nat.le_trans (Nat.le_succ _) (Nat.le_succ _)) z, dne, hns⟩⟩
end
end SupX
end PySem
namespace Bx
open PySem PySem.Spec L2
theorem relO_one {f : Str} {v : V} {v' : Value} (r : RelV v v') (g : Str) : RelO (List.lookup g [(f, v)]) (if g = f then some v' else none) := by
  by_cases hw : g = f
  · subst hw
    rw [if_pos rfl]
    have q : List.lookup g [(g, v)] = some v := by simp [List.lookup]
    rw [q]
    exact r
  · rw [if_neg hw]
    have qw : (g == f) = false := by simpa using hw
    have q2 : List.lookup g [(f, v)] = none := by simp [List.lookup, qw]
    rw [q2]
    trivial
section
variable {X : Cx} {C fI : Addr} {f msg x : Str}
/-- E(e), its field f -/
def tMkF (C : Addr) (f : Str) (ta : TA) : St → Hp → XK → Prop := fun σ H Q => ta σ H fun vs H1 => ∃ v, vs = [v] ∧ ∀ d, H1 d = none → Q (.ref C) (some d) (upd H1 d (.xd [(f, v)]))
theorem pmk_sup {a : Expr} {ta : TA} {p pos : Pos} {k : Nat} (T : PySem.SupX.SupTxt X.prog X.K X.mg x C fI f msg) (FL : PySem.SupX.Fld f) (hr : Room k X.A) (ha : PA X [a] ta) (hg : Gl X x) (hdb : (x == ("__debug__" : Str)) = false)
    (he : starEach (a :: []) X.env = (false, eval a X.env) :: starEach [] X.env) (hpl : (backTo pos (starEach [] X.env)).any (·.1) = false) :
    PMk X (.Call (.Name x p) [a] [] pos) (tMkF C f ta) := by
  intro pins s σ H Q I h
  refine wpAny_Call_Name_kw (ld_glob I hg T.gC ?_ hdb)
  refine PySem.W.callWith_K (h₀ := X.base) I.ok.mod.kin T.kC (thn (ha.run pos pins s σ H _ I h) fun us s1 hh => ?_) he hpl
  obtain ⟨vs, H1, I1, r1, v, ev, q1⟩ := hh
  subst ev
  refine ⟨I1.kIn, ?_⟩
  cases r1 with
  | cons rv rn =>
    rename_i v' us'
    cases rn
    show wpAny _ _ (call (.ref C) [v']) _ _ _
    have hlim := I1.nolimit
    obtain ⟨mb, hb1, hb2⟩ := I1.mod.blt
    have hsb : mb "super" = some (.type "super") := (hb2 _ (by decide)).trans (by decide +kernel)
    have hG := I1.mod.glob.keeps I1.bk
    have hB := hb1.keeps I1.bk
    obtain ⟨hp, g, dr, tk, os⟩ := s1
    refine wpAny_call (PySem.SupX.sup_made T FL I1.kIn hG hB hsb hlim (by have := hr.dp; omega) fun h' tk' e d M => ?_)
    show MkP X pins σ Q (.ref e) ⟨h', g, dr, tk', os⟩
    obtain ⟨oe, fv, hoe, hc, hd, hdat, h1⟩ := M.obj
    have hns := M.ns
    obtain ⟨G', g1, g2⟩ := restrict h' fun b => decide (b ≠ e)
    have gk : ∀ b, b ≠ e → G'.get? b = h'.get? b := fun b hb => g1 b (decide_eq_true hb)
    have ge : G'.get? e = none := g2 e (by simp)
    have old : ∀ b o, hp.get? b = some o → G'.get? b = some o := fun b o q => (gk b (Nat.ne_of_lt (Nat.lt_of_lt_of_le (Heap.lt_size q) M.new))).trans (M.keep b o q)
    have ob : ObjOk X.prog X.w (upd H1 d (.xd [(f, v)])) G' d (.xd [(f, v)]) :=
      ⟨_, hns.at (fun o q => (gk d M.dne).trans q), fun g => relO_one rv g⟩
    have J : Inv X pins σ (upd H1 d (.xd [(f, v)])) ⟨G', g, dr, tk', os⟩ := I1.laid (t' := tk') old M.dbig ob
    refine ⟨e, oe, fv, ⟨G', g, dr, tk', os⟩, _, .ref C, some d, rfl, J, fun b o q => ?_, ge, hoe, ⟨hc, hd⟩, hdat, h1, ?_, rfl, I1.bare, raises_own T.exC T.tyC, q1 d (I1.hok.fresh M.dbig)⟩
    · by_cases hb : b = e
      · have q' : G'.get? b = some o := q
        rw [hb, ge] at q'; cases q'
      · exact (gk b hb).symm.trans q
    · rw [upd_ne (Ne.symm M.dne)]
      exact I1.hok.fresh M.new
end
end Bx
/-! Bx17: errors raised, caught and kept -/
namespace Bx
open PySem PySem.Spec L2
theorem exT_ok {P : Program} {w : World} {H : Hp} {h : Heap} {a : Addr} {cls : Value} {d : Option Addr} {oe : Obj} {vs : Array Value} (e : h.get? a = some oe) (z : Zc cls d oe) (hd : oe.data = .fields vs) : ObjOk P w H h a (ExT cls d a) :=
  ⟨⟨oe, vs, e, z, hd⟩, ⟨oe, e⟩, fun _ _ ⟨o, v, q, r⟩ k => ⟨o, v, k o q, r⟩⟩
section
variable {X : Cx} {pins : List (Addr × Obj)} {σ : St} {H : Hp} {s : Shared}
/-- an object that is there and was not known is known from now on -/
theorem Inv.known {a : Addr} {cls : Value} {d : Option Addr} {oe : Obj} {vs : Array Value} (I : Inv X pins σ H s) (he : s.heap.get? a = some oe) (z : Zc cls d oe) (hd : oe.data = .fields vs) (hn : H a = none) (h0 : X.s_0.heap.get? a = none) (nL : a ≠ X.env.locals)
    (np : ∀ p ∈ X.pn ++ pins, p.1 ≠ a) : Inv X pins σ (upd H a (ExT cls d a)) s := by
  refine ⟨I.ok, I.os, I.bare, ⟨I.base.keep, I.base.slot, fun b o e n hx => ?_, I.base.there, fun b xs e => ?_, fun b o u e => ?_, fun b ps e => ?_⟩, I.loc, I.cell, ?_, fun x c e => ?_, fun p hp => ?_, ?_, I.len⟩
  · rw [upd_ne fun q => by rw [q, h0] at e; cases e]
    exact I.base.free b o e n hx
  · have q := I.base.tups b xs e
    rw [upd_ne (ne_of_none q hn)]; exact q
  · have q := I.base.frzs b o u e
    rw [upd_ne (ne_of_none q hn)]; exact q
  · obtain ⟨more, q⟩ := I.base.tbls b ps e
    exact ⟨more, by rw [upd_ne (ne_of_none q hn)]; exact q⟩
  · rw [upd_ne (Ne.symm nL)]; exact I.free
  · have nc : c ≠ a := fun q => by
      obtain ⟨v, o, ho, hdc⟩ := I.cell x c e
      rw [q, he] at ho
      cases ho
      rw [hd] at hdc
      cases hdc
    rw [upd_ne nc]; exact I.freeC x c e
  · obtain ⟨e1, e2, e3, e4, e5⟩ := I.pin p hp
    exact ⟨e1, by rw [upd_ne (np p hp)]; exact e2, e3, e4, e5⟩
  · exact I.hok.laidN (fun _ _ q => q) hn (exT_ok he z hd)
/-- what the clause wishes: the error is kept -/
def wCau (K : PySem.W.Frag) (ln : Nat) (c : Value) (i : Nat) (ts : Addr → TS) (D : Ends) : WX := fun cls d σ H => σ.length = ln →
  PySem.W.exmOne K cls c = some true ∧ ∀ a, H a = none → ts a { nx := fun σ' H' => H' a = none → D.nx (σ'.set i none) (upd H' a (ExT cls d a)), rt := fun _ _ => False, bk := fun _ _ => False, ct := fun _ _ => False } (σ.set i (some (.ref a))) H
/-- try: body / except x as n: suite, where each error of the body is the clause's; behind it the error is kept -/
theorem ps_cau {x n : Str} {c : Value} {i : Nat} {body suite : List Stmt} {b₀ : Stmt} {np pos pos' : Pos} {tb : WX → TS} {ts : Addr → TS} (hs : X.stack = X.env :: X.outer) (hf : X.env.frame = some X.env.locals) (hex : X.ex = []) (hN : X.N.Nodup) (hi : X.N[i]? = some n) (hln : X.env.kindOf n = some .local) (hc : Names X x c)
    (hb : ∀ (W : WX) (pn : List (Addr × Obj)) (xe : Value → Shared → Prop), Takes (X.tr pn xe) W → PSs (X.tr pn xe) body (tb W))
    (hsu : ∀ (a : Addr) (oe : Obj) (pn : List (Addr × Obj)), PSs (X.suite a ((a, oe) :: pn)) (b₀ :: suite) (ts a)) :
    PS X (.Try body [.ExceptHandler (some (.Name x np)) (some n) (b₀ :: suite) pos'] [] [] pos) (fun D σ H => tb (wCau X.K X.N.length c i ts D) D σ H) := by
  refine ⟨fun pins s σ H D I h => ?_⟩
  have ok := I.ok
  have hfr : X.A.frames = some (X.env :: X.outer) := by rw [ok.frames, hs]
  refine wpAny_Try_except (wpAny_mono ((hb (wCau X.K X.N.length c i ts D) (X.pn ++ pins) (fun e s₁ => wpAny (model X.prog X.w) X.A (noteFrame e X.env) (fun _ s₂ => wpAny (model X.prog X.w) X.A (setFlight e none) (fun _ s₃ =>
    wpAny (model X.prog X.w) X.A (handleBy e X.env [.ExceptHandler (some (.Name x np)) (some n) (b₀ :: suite) pos']) (SP X pins D) X.xe s₃) X.xe s₂) X.xe s₁) (fun u s' xx => ?_)).run [] s σ H D (I.toTry _) h) (fun f s1 hsp => ?_) (fun e s1 he => he))
  · obtain ⟨a, B, sI, pins', σ', H', cls, d, rfl, J', nb, up, sky, na, os, ag, hw⟩ := xx
    obtain ⟨hb1, hyes⟩ := hw J'.len
    have J : Inv X pins σ' H' sI := J'.ofTry ok
    have sky' : Sky B (X.env :: X.outer) a (Zc cls d) X.env.locals s'.heap := by rw [← hs]; exact sky
    refine Sky.land Zc.steady hfr hf sky' fun h3 fl3 up3 => ?_
    have J3 : Inv X pins σ' H' { s' with heap := h3 } := J.landed nb fl3.1 (up.trans up3) os ag
    obtain ⟨oe3, vs3, he3, hz3, hd3⟩ := fl3.there
    have nfr : a ∉ frs (X.env :: X.outer) := fun hm => by
      obtain ⟨_, o', e', hnf⟩ := fl3.2.2.1.mem hm
      rw [he3] at e'; cases e'
      exact hnf _ hd3
    have nL : a ≠ X.env.locals := fun z => nfr (List.mem_filterMap.mpr ⟨X.env, List.mem_cons_self, by rw [hf, z]⟩)
    have nF : a ∉ X.fs := fun hm => by
      obtain ⟨e, he, q⟩ := List.mem_filterMap.mp hm
      exact nfr (List.mem_filterMap.mpr ⟨e, List.mem_cons_of_mem _ he, q⟩)
    have gI : sI.heap.get? a = none := by
      cases q : sI.heap.get? a with
      | none => rfl
      | some o =>
        have := nb a o q (by rw [show (X.tr (X.pn ++ pins) _).stack = X.env :: X.outer from hs]; exact nfr)
        rw [fl3.2.1] at this; cases this
    have g0 : X.s_0.heap.get? a = none := by
      cases q : X.s_0.heap.get? a with
      | none => rfl
      | some o =>
        obtain ⟨o', q'⟩ := J.base.there a o q (by rw [hex]; simp)
        rw [gI] at q'; cases q'
    have npin : ∀ p ∈ X.pn ++ pins, p.1 ≠ a := fun p hp z => by
      have := (J.pin p hp).1
      rw [z, gI] at this; cases this
    have S3 := J3.suite he3 hd3 na nL nF
    refine wpAny_handleBy_cons (codeAny_handlers_test ?_) (by intro q; cases q)
    have LT : PySem.W.Looks (model X.prog X.w) h3 (typeOf (.ref a)) cls := fun A Q E s k q => wpAny_typeOf_ref (k _ _ he3) (by rw [hz3.1]; exact q)
    have LM := PySem.W.exm_one (M := model X.prog X.w) (J3.kIn) LT hb1
    have test : ∀ {Q : Value → Shared → Prop} {E : Value → Shared → Prop}, Q c { s' with heap := h3 } → wpAny (model X.prog X.w) (X.A.mark (some (.ref a))) (eval (.Name x np) X.env) Q E { s' with heap := h3 } := fun {Q E} q => by
      obtain ⟨hg, hdbg, hm | ⟨hm, hv, hnn⟩⟩ := hc
      · exact ld_glob (X := X.suite a ((a, oe3) :: (X.pn ++ pins))) S3 hg hm q hdbg
      · exact ld_blt (X := X.suite a ((a, oe3) :: (X.pn ++ pins))) S3 hg hm hv q hnn hdbg
    refine test (LM.here (codeAny_handlers_suite_as ?_))
    refine HandSPX.lands_againZ fl3 fun h4 fl4 up4 => ?_
    have J4 : Inv X pins σ' H' { s' with heap := h4 } := J.landed nb fl4.1 ((up.trans up3).trans up4) os ag
    obtain ⟨oe4, vs4, he4, hz4, hd4⟩ := fl4.there
    have S4 := J4.suite he4 hd4 na nL nF
    refine store_ok (X := X.suite a ((a, oe4) :: (X.pn ++ pins))) (v := .ref a) S4 hN hi (.inl hln) rfl (fun s5 S5 => ?_) (.inr hln)
    refine wpAny_mono ((hsu a oe4 (X.pn ++ pins)).run [] s5 _ H' _ S5 (hyes a na)) (fun f s6 hsp => ?_) (fun _ _ z => False.elim z)
    cases f with
    | next =>
      obtain ⟨σ6, H6, S6, q6⟩ := hsp
      obtain ⟨p1, p2, _⟩ := S6.pin (a, oe4) (List.mem_append_left _ List.mem_cons_self)
      have K6 := Inv.known (S6.unsuite ok) p1 hz4 hd4 p2 g0 nL npin
      exact gone_ok K6 hN hi hln fun s7 J7 => ⟨_, _, J7, q6 p2⟩
    | brk => obtain ⟨_, _, _, q6⟩ := hsp; exact q6.elim
    | cont => obtain ⟨_, _, _, q6⟩ := hsp; exact q6.elim
    | ret u => obtain ⟨_, _, _, _, _, q6⟩ := hsp; exact q6.elim
  · cases f with
    | next =>
      obtain ⟨σ', H', J', q⟩ := hsp
      exact wpAny_execs_nil ⟨σ', H', J'.ofTry ok, q⟩
    | brk =>
      obtain ⟨σ', H', J', q⟩ := hsp
      exact ⟨σ', H', J'.ofTry ok, q⟩
    | cont =>
      obtain ⟨σ', H', J', q⟩ := hsp
      exact ⟨σ', H', J'.ofTry ok, q⟩
    | ret u =>
      obtain ⟨v, σ', H', J', r, q⟩ := hsp
      exact ⟨v, σ', H', J'.ofTry ok, r, q⟩
end
end Bx
/-! Bx18: errors asked and read; raise -/
namespace Bx
open PySem PySem.Spec L2
/-- what an own error class must say -/
structure EcT (K : PySem.W.Frag) (C : Addr) : Prop where
  hcl : (PySem.W.clsIn K C).isSome = true
  hg : PySem.W.findIn K (.ref C) "__getattribute__" = some (some (.builtin "BaseException.__getattribute__"))
  hk : PySem.W.findIn K (.ref C) "__getattr__" = some none
  hs : PySem.W.subIn K (.ref C) (.type "BaseException") = some true
  ha : PySem.W.findIn K (.ref C) "__class__" = some (some (.builtin "object.__class__"))
  hn : PySem.W.specialIn K (.builtin "object.__class__") "__get__" = some (some (.builtin "getset_descriptor.__get__"))
  ht : PySem.W.takesIn K (.builtin "object.__class__") = some true
  hm : PySem.W.mroIn K C (.type "object") = some true
  hd : PySem.W.hasDictIn K C = true
section
variable {X : Cx} {W : Wd} {Wx : WX} {Ex : XK} {F H F' H' : Hp} {A : List Addr} {ρ : En} {σ : St} {pk : Bool} {a c : Expr} {pos : Pos} {ra : En → R M}
/-- isinstance(e, C), e an error that was caught -/
def rIsX (K : PySem.W.Frag) : List V → Hp → VK → Prop := fun xs H Q => ∃ (a C D : Addr) (d : Option Addr) (b : Bool), xs = [.ref a, .ref D] ∧ H a = some (ExT (.ref C) d a) ∧ (d = none ∨ ∃ dd fs, d = some dd ∧ H dd = some (.xd fs)) ∧ EcT K C ∧ PySem.W.kitOne K (.ref C) (.ref D) = some b ∧ Q (.bl b) H
theorem inst_of {pins : List (Addr × Obj)} {s : Shared} {e C : Addr} {d : Option Addr} (I : L2.Inv X pins σ H s) (h : H e = some (ExT (.ref C) d e)) (hd : d = none ∨ ∃ dd fs, d = some dd ∧ H dd = some (.xd fs)) : ∃ oe od, PySem.W.InstAt s.heap e oe C od ∧ oe.dict = d ∧ ∀ dd, d = some dd → ∃ o, od = some o ∧ s.heap.get? dd = some o := by
  obtain ⟨⟨oe, vs, he, hz, hdt⟩, _, _⟩ := I.hok e _ h
  have nc : PySem.W.notCls oe = true := by unfold PySem.W.notCls; rw [hdt]
  rcases hd with rfl | ⟨dd, fs, rfl, hx⟩
  · exact ⟨oe, none, ⟨he, hz.1, nc, by rw [hz.2]; trivial⟩, hz.2, fun _ z => nomatch z⟩
  · obtain ⟨mA, hns, hr⟩ := (show ObjOk X.prog X.w H s.heap dd (.xd fs) from I.hok dd _ hx)
    obtain ⟨od, ho, hl⟩ := lookIn_ns hns
    exact ⟨oe, some od, ⟨he, hz.1, nc, by rw [hz.2]; exact ho⟩, hz.2, fun dd' z => by cases z; exact ⟨od, rfl, ho⟩⟩
theorem call_isX : CallR X (.builtin "isinstance") (rIsX X.K) := by
  intro pins s σ H xs us Q I r h
  obtain ⟨a, C, D, d, b, rfl, ha, hd, T, e, q⟩ := h
  cases r with
  | cons rx rr =>
    cases rr with
    | cons rt rr =>
      cases rr
      cases rx
      cases rt
      obtain ⟨oe, od, J, _⟩ := inst_of I ha hd
      exact PySem.W.kia_one (PySem.W.kitx_exc T.hcl T.hg T.hk T.hs T.ha T.hn T.ht T.hm) I.kIn J e (fun z => nomatch z) fun tk => ⟨.bl b, H, I.kept (t' := tk) fun _ _ z => z, rfl, q⟩
/-- isinstance against an own error class: None is none; an error as sub says -/
def isoM (sub : List Bool) : M → R M
  | .fz .non => mB false
  | .fz (.exc k _) => match sub[k]? with
    | some b => mB b
    | none => .bad
  | _ => .bad
theorem isoM_ret (sub : List Bool) (m : M) : isRet (isoM sub m) = true := by
  unfold isoM
  repeat' split
  all_goals rfl
theorem px_iso {D : Addr} {x : Str} {p pc : Pos} {sub : List Bool} (hK : X.K = W.K) (hg : Gl X "isinstance") (hm : X.mg "isinstance" = none) (hgx : Gl X x) (hmx : X.mg x = some (.ref D)) (hdx : (x == ("__debug__" : Str)) = false)
    (hsub : ∀ k b, sub[k]? = some b → EcT W.K (W.clsA k) ∧ PySem.W.kitOne W.K (.ref (W.clsA k)) (.ref D) = some b) (hnon : PySem.W.kitOne W.K (.type "NoneType") (.ref D) = some false)
    (ha : PE X a (XT W Wx true ra)) (he : starEach [a, .Name x pc] X.env = (false, eval a X.env) :: starEach [.Name x pc] X.env) :
    PE X (.Call (.Name "isinstance" p) [a, .Name x pc] [] pos) (XT W Wx pk fun ρ => do
      let x ← ra ρ
      isoM sub x) := by
  have he2 : starEach [.Name x pc] X.env = (false, eval (.Name x pc) X.env) :: starEach [] X.env := rfl
  have hcall : CallR X (.builtin "isinstance") (fun xs H Q => rIsi X.K xs H Q ∨ rIsX X.K xs H Q) := fun pins s σ H xs us Q I r h => h.elim (call_isi pins s σ H xs us Q I r) (call_isX pins s σ H xs us Q I r)
  refine pe_imp (pe_callB hcall hg hm (by decide +kernel) (pa_cons ha (pa_cons (pe_glob hgx hmx (v := .ref D) rfl hdx) pa_nil he2) he) (by decide) (by decide) he (by rw [he2]; rfl)) fun σ H Q h => ?_
  obtain ⟨F, A, ρ, G, h⟩ := h
  refine XT.use G h fun m v F1 H1 A1 g1 r1 o1 h1 => ?_
  obtain ⟨z, ez, q⟩ := isRet_wp (isoM_ret sub m) h1
  unfold isoM at ez
  split at ez
  · cases ez
    rw [non_rep r1]
    exact .inl ⟨_, _, _, _, _, rfl, .own _, .base .non, by rw [hK]; exact hnon, q _ F1 H1 [] g1 (.fz (.bl _)) .nil⟩
  · rename_i k p
    have eb : ∃ b, sub[k]? = some b ∧ z = .fz (.bl b) := by
      split at ez
      · rename_i b eb
        cases ez
        exact ⟨b, eb, rfl⟩
      · cases ez
    obtain ⟨b, eb, rfl⟩ := eb
    obtain ⟨hE, hs⟩ := hsub k _ eb
    rw [← hK] at hE hs
    cases r1 with
    | fz r =>
      cases r with
      | exc0 hh h => exact .inr ⟨_, _, _, none, _, rfl, g1.st.fh _ _ h, .inl rfl, hE, hs, q _ F1 H1 [] g1 (.fz (.bl _)) .nil⟩
      | exc1 hh h h2 h3 => exact .inr ⟨_, _, _, some _, _, rfl, g1.st.fh _ _ h, .inr ⟨_, _, rfl, g1.st.fh _ _ h2⟩, hE, hs, q _ F1 H1 [] g1 (.fz (.bl _)) .nil⟩
  · cases ez
/-- err.f -/
def attM (ok : Nat → Bool) : M → R M
  | .fz (.exc k p) => if ok k then .ret (.fz p) else .bad
  | _ => .bad
theorem attM_ret (ok : Nat → Bool) (m : M) : isRet (attM ok m) = true := by
  unfold attM
  split
  · split <;> rfl
  · rfl
theorem px_att {f : Str} {ok : Nat → Bool} (hK : X.K = W.K) (hok : ∀ k, ok k = true → EcT W.K (W.clsA k) ∧ W.fld k = f ∧ PySem.W.findIn W.K (.ref (W.clsA k)) f = some none ∧ W.hf k = true) (ha : PE X a (XT W Wx true ra))
    (hb : attributeBase a f X.env (eval a X.env) = eval a X.env) : PE X (.Attribute a f pos) (XT W Wx pk fun ρ => do
      let x ← ra ρ
      attM ok x) := by
  refine ⟨fun pins s σ H Q I h => ?_⟩
  obtain ⟨F, A, ρ, G, h⟩ := h
  refine attr_of hb (thn (ha.run pins s σ H _ I (XT.use (P := fun v H1 => ∃ e C dd v1, v = .ref e ∧ H1 e = some (ExT (.ref C) (some dd) e) ∧ H1 dd = some (.xd [(f, v1)]) ∧ EcT X.K C ∧ PySem.W.findIn X.K (.ref C) f = some none ∧ Q v1 H1) G h fun m v F1 H1 A1 g1 r1 o1 h1 => ?_)) fun u s1 hh => ?_)
  · obtain ⟨z, ez, q⟩ := isRet_wp (attM_ret ok m) h1
    unfold attM at ez
    split at ez
    · rename_i k p
      split at ez
      · rename_i hk
        cases ez
        obtain ⟨hE, hf, hn, hh'⟩ := hok k hk
        cases r1 with
        | fz r =>
          cases r with
          | exc0 hh h => rw [hh] at hh'; cases hh'
          | exc1 hh h h2 h3 =>
            rw [hf] at h2
            exact ⟨_, _, _, _, rfl, g1.st.fh _ _ h, g1.st.fh _ _ h2, by rw [hK]; exact hE, by rw [hK]; exact hn, q _ F1 H1 [] g1 (.fz h3) .nil⟩
      · cases ez
    · cases ez
  · obtain ⟨x, H1, I1, rx, e, C, dd, v1, rfl, hE, hx, T, hn, q⟩ := hh
    obtain rfl : u = Value.ref e := rx
    have hx' : ObjOk X.prog X.w H1 s1.heap dd (.xd [(f, v1)]) := I1.hok dd _ hx
    obtain ⟨mA, hns, hr⟩ := hx'
    obtain ⟨od, ho, hl⟩ := lookIn_ns hns
    have l : List.lookup f [(f, v1)] = some v1 := by simp [List.lookup]
    obtain ⟨u, hu, ru⟩ := RelO.some_of (v := v1) (o := mA f) (by rw [← l]; exact hr f)
    obtain ⟨oe, od', J, hdc, hdo⟩ := inst_of I1 hE (.inr ⟨dd, _, rfl, hx⟩)
    obtain ⟨o2, rfl, ho2⟩ := hdo dd rfl
    rw [ho] at ho2; cases ho2
    exact HandSPX.exc_get I1.kIn J T.hg T.hk T.hs (PySem.W.findObj_own T.hd hn rfl (by rw [hl, hu])) (handed_of ru) ⟨v1, H1, I1.tok _, ru, q⟩
/-! ### raise -/
def raiP (c : Nat) : En → R (Fl × En) := fun _ => .err ⟨c, .non⟩
def raiF (c : Nat) (re : En → R M) : En → R (Fl × En) := fun ρ => do
  let m ← re ρ
  .err ⟨c, m.toD⟩
theorem ss_raiP {n : Nat} {x m : Str} {j : Nat} {p p2 pos : Pos} {bmB : List Value} {B newId initId : String} (hh : W.hf n = false) (hc : X.calm = true) (tk : Takes X (Wk0 Ex)) (FB : ExcBaseFacts B newId initId bmB) (q : PySem.W.excIn X.K (W.clsA n) bmB newId = true) (gC : X.mg x = some (.ref (W.clsA n))) (kC : PySem.W.keepIn X.K (.ref (W.clsA n)) = true)
    (r : Raises X (.ref (W.clsA n))) (hg : Gl X x) (hdb : (x == ("__debug__" : Str)) = false) : PS X (.Raise (some (.Call (.Name x p) [.Constant (.str m) j p2] [] pos)) none pos') (ST W Ex (raiP n)) := by
  refine ps_imp (ps_raise hc tk (pmk_own FB q gC kC r hg hdb)) fun D σ H h => ?_
  obtain ⟨F, A, ρ, G, h⟩ := h
  exact h _ none F H A Step.refl G.st ⟨rfl, .inl ⟨rfl, rfl, hh⟩⟩
theorem ss_raiF {n : Nat} {x msg : Str} {fI : Addr} {e : Expr} {p pos pos' : Pos} {k : Nat} {re : En → R M} (hh : W.hf n = true) (hc : X.calm = true) (tk : Takes X (Wk0 Ex)) (T : PySem.SupX.SupTxt X.prog X.K X.mg x (W.clsA n) fI (W.fld n) msg) (FL : PySem.SupX.Fld (W.fld n)) (hr : Room k X.A) (he : PE X e (XT W (Wk0 Ex) false re))
    (hg : Gl X x) (hdb : (x == ("__debug__" : Str)) = false) (hs : starEach (e :: []) X.env = (false, eval e X.env) :: starEach [] X.env) :
    PS X (.Raise (some (.Call (.Name x p) [e] [] pos)) none pos') (ST W Ex (raiF n re)) := by
  refine ps_imp (ps_raise hc tk (pmk_sup T FL hr (pa_cons he pa_nil hs) hg hdb hs rfl)) fun D σ H h => ?_
  obtain ⟨F, A, ρ, G, h⟩ := h
  refine XT.useS G h fun m v F1 H1 A1 g1 r1 o1 h1 => ?_
  have g2 := Grow.frz g1.st g1 r1.owns o1.fresh
  refine ⟨v, rfl, fun d hd => ?_⟩
  have g3 := Grow.data g2.st (.xd [(W.fld n, v)]) hd
  exact h1 _ (some d) _ _ A ((g2.trans g3).step fun _ z => .inl z) g3.st ⟨rfl, .inr ⟨d, v, rfl, hh, upd_same, (r1.frz' m).mono g3.ff⟩⟩
end
end Bx
/-! Bx19: _law_caught(lambda: ..) -/
namespace Bx
open PySem PySem.Spec L2 LamX
/-- the tables of code objects: their code objects are data -/
def WIt (T : List (Addr × Str)) (F H : Hp) : Prop := ∀ p ∈ T, ∃ ps : Array Value, H p.1 = some (.tbl ps) ∧ TriplesOk ps.toList ∧ ∀ (pos : Pos) (cv : Value), codeAmong pos ps.toList = some cv → ∃ c, cv = .ref c ∧ F c = some (CodeO c p.2)
/-- what the world says of tables -/
structure LamW (W : Wd) (T : List (Addr × Str)) : Prop where
  tabs : ∀ F H, W.WI F H → WIt T F H
  put : ∀ F H F' H', W.WI F H → Same F F' → (∀ a, W.Gh a → (∀ p ∈ T, p.1 ≠ a) → H' a = H a) → WIt T F' H' → W.WI F' H'
  gh : ∀ p ∈ T, W.Gh p.1
section
variable {X : Cx} {pins : List (Addr × Obj)} {σ : L2.St} {F H : Hp} {s : Shared} {W : Wd}
theorem lam3 {T : List (Addr × Str)} {c P : Addr} {params : Arguments} {body : Expr} {scope : Scope} {pos : Pos} {E : Value → Shared → Prop} {Q : Value → Shared → Prop} (I : L2.Inv X pins σ H s) (LW : LamW W T) (st : St0 W F H) (TB : TabB X.base X.mg c P) (hcode : X.env.code = .ref c)
    (hm : (P, X.env.qual ++ "<lambda>") ∈ T) (hu : ∀ p ∈ T, p.1 = P → p.2 = X.env.qual ++ "<lambda>") (hdef : defaultsOf params X.env = ([], [])) (hfree : ∀ y ∈ scope.names, y.2 = .free → ∃ c, X.env.cells.lookup y.1 = some c)
    (h : ∀ (f c' : Addr) (pm ctv : Value) (F1 H1 : Hp) (s' : Shared), L2.Inv X pins σ H1 s' → Grow W F H F1 H1 →
      s'.heap.get? f = some (PySem.W.kla_obj "<lambda>" (X.env.qual ++ "<lambda>") params body scope (cloFrom X.env.cells scope.names []) pm c' ctv) → H1 f = none → f ∉ frs X.stack → F1 c' = some (CodeO c' (X.env.qual ++ "<lambda>")) → Q (.ref f) s') :
    wpAny (model X.prog X.w) X.A (eval (.Lambda params body scope pos) X.env) Q E s := by
  have WT := LW.tabs F H st.wi
  obtain ⟨ps, hP, ht, ha⟩ := WT _ hm
  have gP := LW.gh _ hm
  refine PySem.W.kla_eval hdef ?_
  have bP : s.heap.BuiltinsAt X.mg P := TB.bm.keeps I.bk
  have hP' : s.heap.get? P = some { cls := .none, data := .fields ps } := I.hok P _ hP
  have nofr : ∀ f, s.heap.objs.size ≤ f → f ∉ frs X.stack := fun f hf z => by
    rcases List.mem_cons.mp (I.stkSub _ z) with e | e
    · have h1 := I.lt
      rw [← e] at h1
      exact Nat.lt_irrefl _ (Nat.lt_of_lt_of_le h1 hf)
    · exact I.nofs hf e
  cases hc : codeAmong pos ps.toList with
  | some cv =>
    obtain ⟨c', e, hco⟩ := ha pos cv hc
    subst e
    refine PySem.W.kla_makeFunctionHit (mg := X.mg) (c := c) (P := P) (ps := ps) (closure_ok hfree) I.ok.glob (I.mod.glob.keeps I.bk) hcode (TB.code.keeps I.bk) hP' ht hc bP fun ctv h' tk hx hsz => ?_
    exact h h'.objs.size c' ((X.mg "__name__").getD .none) ctv F H _ (I.kept fun b o e => Heap.get?_push_of_some _ (hx b o e)) (Grow.refl st) (Heap.get?_push_size _ rfl) (I.hok.fresh hsz) (nofr _ hsz) hco
  | none =>
    refine PySem.W.kla_makeFunction (mg := X.mg) (c := c) (P := P) (ps := ps) (closure_ok hfree) I.ok.glob (I.mod.glob.keeps I.bk) hcode (TB.code.keeps I.bk) hP' ht hc TB.gP bP fun c' ctv h' tk hx hge hlt hrec htb => ?_
    obtain ⟨c2, oc, vs, t, e2, hoc, hd, hv⟩ := hrec
    cases e2
    have hsz : s.heap.objs.size ≤ h'.objs.size := Nat.le_trans hge (Nat.le_of_lt hlt)
    have nC : H c' = none := I.hok.fresh hge
    have nG : ¬ W.Gh c' := st.nogh nC
    have nF : F c' = none := st.fnone nC
    have PF : F P = none := st.gh P gP
    have nPc : P ≠ c' := ne_of_none hP nC
    have I1 := inv_table (t' := tk) (more := #[rawInt pos.line, rawInt pos.col, .ref c']) (h' := h'.push (PySem.W.kla_obj "<lambda>" (X.env.qual ++ "<lambda>") params body scope (cloFrom X.env.cells scope.names []) ((X.mg "__name__").getD .none) c' ctv)) I hP
      (fun b o hb e => Heap.get?_push_of_some _ (hx b o hb e)) (Heap.get?_push_of_some _ htb) hge ⟨oc, vs, t, Heap.get?_push_of_some _ hoc, hd, hv⟩
    have ff : Same F (upd F c' (CodeO c' (X.env.qual ++ "<lambda>"))) := fun a x e => by rw [upd_ne (ne_of_none e nF)]; exact e
    have eL : (ps ++ #[rawInt pos.line, rawInt pos.col, .ref c']).toList = ps.toList ++ [rawInt pos.line, rawInt pos.col, .ref c'] := by simp
    have WT1 : WIt T (upd F c' (CodeO c' (X.env.qual ++ "<lambda>"))) (upd (upd H P (.tbl (ps ++ #[rawInt pos.line, rawInt pos.col, .ref c']))) c' (CodeO c' (X.env.qual ++ "<lambda>"))) := fun p hp => by
      by_cases hb : p.1 = P
      · rw [hu p hp hb, hb]
        refine ⟨_, by rw [upd_ne nPc, upd_same], by rw [eL]; exact PySem.TriplesOk_snoc _ _ _ _ ht, fun p' cv hcv => ?_⟩
        rw [eL] at hcv
        rcases among_app _ ht hcv with z | z
        · obtain ⟨c0, e1, e2⟩ := ha p' cv z
          exact ⟨c0, e1, ff _ _ e2⟩
        · exact ⟨c', z, upd_same⟩
      · obtain ⟨ps', a1, a2, a3⟩ := WT p hp
        refine ⟨ps', by rw [upd_ne (ne_of_none a1 nC), upd_ne hb]; exact a1, a2, fun p' cv hcv => ?_⟩
        obtain ⟨c0, e1, e2⟩ := a3 p' cv hcv
        exact ⟨c0, e1, ff _ _ e2⟩
    have g : Grow W F H (upd F c' (CodeO c' (X.env.qual ++ "<lambda>"))) (upd (upd H P (.tbl (ps ++ #[rawInt pos.line, rawInt pos.col, .ref c']))) c' (CodeO c' (X.env.qual ++ "<lambda>"))) := by
      refine ⟨ff, ⟨fun a x e => ?_, LW.put _ _ _ _ st.wi ff (fun a ga hT => ?_) WT1, fun a ga => ?_⟩, fun a x e ng => ?_, fun a x e n => ?_⟩
      · by_cases hb : a = c'
        · subst hb; rw [upd_same] at e ⊢; exact e
        · rw [upd_ne hb] at e ⊢
          rw [upd_ne fun z => by rw [z, PF] at e; cases e]
          exact st.fh _ _ e
      · rw [upd_ne fun (z : a = c') => nG (by rw [← z]; exact ga), upd_ne fun (z : a = P) => hT _ hm z.symm]
      · rw [upd_ne fun (z : a = c') => nG (by rw [← z]; exact ga)]; exact st.gh a ga
      · rw [upd_ne (ne_of_none e nC), upd_ne fun (z : a = P) => ng (by rw [z]; exact gP)]; exact e
      · rw [upd_ne (ne_of_none e nC)]; exact n
    refine h h'.objs.size c' ((X.mg "__name__").getD .none) ctv _ _ _ I1 g (Heap.get?_push_size _ rfl) ?_ (nofr _ hsz) upd_same
    have n1 : h'.objs.size ≠ c' := Nat.ne_of_gt hlt
    have n2 : h'.objs.size ≠ P := Nat.ne_of_gt (Nat.lt_of_lt_of_le (Heap.lt_size hP') hsz)
    rw [upd_ne n1, upd_ne n2]
    exact I.hok.fresh hsz
end
/-- the error that some work raises, None if it raises none -/
def cauR (ok : Nat → Bool) : R M → R M
  | .ret _ => .ret (.fz .non)
  | .err e => if ok e.c then .ret (.fz (.exc e.c e.p)) else .bad
  | .bad => .bad
  | .take n k => .take n fun i => cauR ok (k i)
theorem cau_wp {ok : Nat → Bool} {Q : M → Prop} {E : Er → Prop} : ∀ {r : R M}, (cauR ok r).wp Q E → r.wp (fun _ => Q (.fz .non)) fun e => ok e.c = true ∧ Q (.fz (.exc e.c e.p))
  | .ret _, h => h
  | .err e, h => by
    unfold cauR at h
    split at h
    · rename_i q; exact ⟨q, h⟩
    · exact h.elim
  | .bad, h => h
  | .take n k, h => ⟨h.1, fun i h1 h2 => cau_wp (h.2 i h1 h2)⟩
/-- the text of _law_caught -/
def cauB (a y n x : Str) (p : List Pos) : List Stmt :=
  let q := fun i => p.getD i ⟨0, 0, 0, 0⟩
  [.Assign [.Name y (q 0)] (.Constant .none 0 (q 1)) (q 2), .Try [.Expr (.Call (.Name a (q 3)) [] [] (q 4)) (q 5)] [.ExceptHandler (some (.Name x (q 6))) (some n) [.Assign [.Name y (q 7)] (.Name n (q 8)) (q 9)] (q 10)] [] [] (q 11), .Return (some (.Name y (q 12))) (q 13)]
section
variable {X : Cx} {W : Wd} {Wx : WX} {pk : Bool}
theorem px_cau {T : List (Addr × Str)} {ok : Nat → Bool} {x a y n bx : Str} {g c P B : Addr} {k : Nat} {pg : Arguments} {sg : Scope} {dV kV doc pm cdv ct oc : Value} {an od : Option Addr} {osl : Array (Option Value)} {ql : List Pos}
    {params : Arguments} {body : Expr} {scope : Scope} {re : En → R M} {p lpos pos : Pos} (LW : LamW W T) (hg : Gl X x) (hm : X.mg x = some (.ref g)) (hk : PySem.W.keepIn X.K (.ref g) = true)
    (lk : X.K.lookup g = some ⟨oc, od, .func (PySem.W.fnOf x x pg (cauB a y n bx ql) sg dV kV doc pm an cdv ct), osl⟩) (hcg : PySem.W.codeIn X.K cdv x = true) (hb : L2.Binds X.K (PySem.W.fnOf x x pg (cauB a y n bx ql) sg dV kV doc pm an cdv ct) [a] []) (Sg : FnScope [a, y, n] [a] sg)
    (ga : sg.names.lookup a = some .local) (gy : sg.names.lookup y = some .local) (gn : sg.names.lookup n = some .local) (gb : sg.names.lookup bx = some .globalImplicit)
    (hmb : X.mg bx = some (.ref B)) (hex : ∀ n, ok n = true → PySem.W.exmOne X.K (.ref (W.clsA n)) (.ref B) = some true)
    (TB : TabB X.base X.mg c P) (hcode : X.env.code = .ref c) (hmT : (P, X.env.qual ++ "<lambda>") ∈ T) (hu : ∀ p ∈ T, p.1 = P → p.2 = X.env.qual ++ "<lambda>") (hr : Room (k + 2) X.A) (L : LamS X.env.scope scope) (hdef : defaultsOf params X.env = ([], []))
    (hbind : ∀ (q : Str) (cl : List (Str × Addr)) (pm cv ctv : Value), bindArgs (PySem.W.kla_fn "<lambda>" q params body scope cl pm cv ctv) ⟨[], []⟩ = pure [])
    (hbody : ∀ (A : Around) (outer : List Env) (s : Shared) (H : Hp) (E : XK) (f c' : Addr), Room k (A.deeper (lamEnv X scope s.heap.objs.size f c')) → PE (lamCx X A outer s H E scope f c') body (XT W (Wk0 E) true re))
    (hdb : (x == ("__debug__" : Str)) = false) (da : (a == ("__debug__" : Str)) = false) (ca : (a == ("__classdict__" : Str)) = false) (dy : (y == ("__debug__" : Str)) = false) (cy : (y == ("__classdict__" : Str)) = false) (dn : (n == ("__debug__" : Str)) = false) (cn : (n == ("__classdict__" : Str)) = false) (dbx : (bx == ("__debug__" : Str)) = false) :
    PE X (.Call (.Name x p) [.Lambda params body scope lpos] [] pos) (XT W Wx pk fun ρ => cauR ok (re ρ)) := by
  refine ⟨fun pins s σ H Q I h => ?_⟩
  obtain ⟨F, A, ρ, G, h⟩ := h
  have h := cau_wp h
  refine wpAny_Call_Name_kw (ld_glob I hg hm ?_ hdb)
  refine PySem.W.callWith_K (h₀ := X.base) I.ok.mod.kin hk ?_ (by rfl) (by rfl)
  show wpAny _ _ (spliced ((false, eval (.Lambda params body scope lpos) X.env) :: backTo pos (starEach [] X.env))) _ _ s
  refine Calls.spliced_cons (lam3 I LW G.st TB hcode hmT hu hdef (L.has I.ok) fun f c' pm' ctv F1 H1 s' I1 g1 hf hfn hfr hco => ?_)
  refine Calls.spliced_nil ⟨I1.kIn, ?_⟩
  have G1 := G.grow g1
  have rc : codeAny (model X.prog X.w) X.A (.call (.ref g) ⟨[.ref f], []⟩) (CR C8.CX0 X.stack X.prog X.w H1 s' Q C8.E0) s' := by
    refine run_ofS (N := [a, y, n]) (ps := [a]) (us := [.ref f]) (vs := [.ref f]) lk hcg Sg hr I1.env0 (hb s' [.ref f] I1.kIn rfl) (.cons rfl .nil) rfl fun hr' => ?_
    have hgl : Gl (cxOf C8.CX0 X.prog X.w X.K X.mg X.base [a, y, n] x sg g cdv X.A X.stack s' H1 C8.E0).nox bx := gb
    have NN : (cxOf C8.CX0 X.prog X.w X.K X.mg X.base [a, y, n] x sg g cdv X.A X.stack s' H1 C8.E0).nox.N.Nodup := Sg.nd
    refine ⟨_, (pss_cons (ps_set (i := 1) NN rfl (.inl gy) pe_non rfl (.inr gy)) (pss_cons (ps_cau (X := (cxOf C8.CX0 X.prog X.w X.K X.mg X.base [a, y, n] x sg g cdv X.A X.stack s' H1 C8.E0).nox) (c := .ref B) (i := 2)
      (tb := fun W' D σ' H' => ∃ Ech : XK, (∀ cls d σ' H', Ech cls d H' → W' cls d σ' H') ∧ σ'[0]? = some (some (.ref f)) ∧ H' c' = some (CodeO c' (X.env.qual ++ "<lambda>")) ∧ XT W (Wk0 Ech) true re σ H' fun _ H2 => D.nx σ' H2)
      (ts := fun a => tAsg (tVar 2) (gName 1))
      rfl rfl rfl NN rfl gn ⟨hgl, dbx, .inl hmb⟩ (fun W' pn xe tk => ?_) (fun a oe pn => pss_one (ps_set (i := 1) Sg.nd rfl (.inl gy) (pe_var (i := 2) rfl (.inl gn) dn cn) rfl (.inr gy)))) (pss_one (ps_ret (pe_var (i := 1) rfl (.inl gy) dy cy))))).nox, ?_⟩
    · refine pss_one ⟨fun pins2 s2 σ2 H2 D I2 h2 => ?_⟩
      obtain ⟨Ech, hW, h1, h3, h4⟩ := h2
      exact (ps_expr (pe_act (CXg := C8.CX0) (Eg := C8.E0) (Ng := [a, y, n]) (i := 0) I1 L hf hfn hfr (hbind _ _ _ _ _) tk hW hr' (fun A outer s H hr2 => hbody A outer s H Ech f c' hr2) rfl (.inl ga) da ca) rfl).run pins2 s2 σ2 H2 D I2 ⟨h1, h3, h4⟩
    · refine ⟨fun cls d H' => PySem.W.exmOne X.K cls (.ref B) = some true ∧ ∀ a, H' a = none → Q (.ref a) (upd H' a (ExT cls d a)), fun cls d σ' H' z => ?_, rfl, g1.st.fh _ _ hco, ?_⟩
      · intro hl
        have hl3 : σ'.length = 3 := hl
        refine ⟨z.1, fun a ha => ⟨.ref a, ?_, fun ha2 => ⟨.ref a, ?_, z.2 a ha⟩⟩⟩
        · rw [List.getElem?_set_self (by omega)]
        · rw [List.getElem?_set_ne (by decide), List.getElem?_set_self (by rw [List.length_set]; omega)]
      · refine ⟨F1, A, ρ, G1, R.wp_mono (fun m q v F2 H2 A2 g2 r2 o2 => ⟨.non, rfl, q .non F2 H2 [] (g1.trans g2) (.fz .non) .nil⟩) (fun e q cl d F2 H2 g2 r2 => ?_) h⟩
        obtain ⟨rfl, hr2⟩ := r2
        refine ⟨hex _ q.1, fun a ha => ?_⟩
        have g3 := Grow.data g2.st (ExT (.ref (W.clsA e.c)) d a) ha
        refine q.2 (.ref a) _ _ [] ((g1.trans g2).trans g3) (.fz ?_) .nil
        rcases hr2 with ⟨rfl, hp, hf⟩ | ⟨dd, v, rfl, hf, hx, hv⟩
        · rw [hp]
          exact .exc0 hf upd_same
        · exact .exc1 hf upd_same (g3.ff _ _ hx) (hv.mono g3.ff)
  refine wpAny_call (codeAny_mono rc fun r s2 hq => ?_)
  cases r with
  | error e => exact (show False from hq).elim
  | ok fl =>
    cases fl with
    | ret u => exact I1.after hq
    | next => exact False.elim hq
    | brk => exact False.elim hq
    | cont => exact False.elim hq
end
end Bx
/-! Bx20: the words of which the meanings are made, and their rules -/
namespace Bx
open PySem PySem.Spec L2
abbrev XE1 := En → R M
abbrev XEs := En → R (List M)
abbrev XTs := En → R Bool
abbrev XOs := En → R (Option Int)
abbrev XIs := En → R (List D)
abbrev XS := En → R (Fl × En)
def xV (pk : Bool) (i : Nat) : XE1 := fun ρ => varM pk ρ[i]?
def xC (d : D) : XE1 := fun _ => .ret (.fz d)
def xO (f : M → M → R M) (a b : XE1) : XE1 := fun ρ => do
  let x ← a ρ
  let y ← b ρ
  f x y
def x2 (f f' : M → M → R M) (a b c : XE1) : XE1 := fun ρ => do
  let x ← a ρ
  let y ← b ρ
  let t ← f x y
  goM t (do
    let z ← c ρ
    f' y z)
def xU (f : M → R M) (a : XE1) : XE1 := fun ρ => do
  let x ← a ρ
  f x
def xOne (a : XE1) : XE1 := fun ρ => do
  let x ← a ρ
  asB x
def xAnd (a b : XE1) : XE1 := fun ρ => do
  let x ← a ρ
  goM x (do
    let y ← b ρ
    asB y)
def xOr (a b : XE1) : XE1 := fun ρ => do
  let x ← a ρ
  orM x (do
    let y ← b ρ
    asB y)
def xIf (c : XTs) (a b : XE1) : XE1 := fun ρ => do
  let t ← c ρ
  if t then a ρ else b ρ
def xT (e : XEs) : XE1 := fun ρ => do
  let ms ← e ρ
  tupR ms
def xL (e : XEs) : XE1 := fun ρ => do
  let ms ← e ρ
  lstR ms
def xI (pk : Bool) (a b : XE1) : XE1 := fun ρ => do
  let x ← a ρ
  let y ← b ρ
  let m ← idxM x y
  lookM pk m
def xSl (a : XE1) (l h : XOs) : XE1 := fun ρ => do
  let x ← a ρ
  let l ← l ρ
  let h ← h ρ
  slcM x l h
def xB (f : List M → R M) (e : XEs) : XE1 := fun ρ => do
  let ms ← e ρ
  f ms
def eN : XEs := fun _ => .ret []
def eC (a : XE1) (r : XEs) : XEs := fun ρ => do
  let m ← a ρ
  let ms ← r ρ
  .ret (m :: ms)
def eS (a : XE1) (r : XEs) : XEs := fun ρ => do
  let m ← a ρ
  let l ← itM m
  let ms ← r ρ
  .ret (l.map .fz ++ ms)
/-- a call by places: n arguments -/
def xF (φ : List D → R M) (n : Nat) (e : XEs) : XE1 := fun ρ => do
  let ms ← e ρ
  φ ((List.range n).map fun k => (toDs ms).getD k .non)
def xK (φ : List D → R M) (pm : List Nat) (e : XEs) : XE1 := fun ρ => do
  let ms ← e ρ
  φ (pm.map fun k => (toDs ms).getD k .non)
def tV (a : XE1) : XTs := fun ρ => do
  let m ← a ρ
  truM m
def tAnd (a b : XTs) : XTs := fun ρ => do
  let t ← a ρ
  if t then b ρ else .ret false
def tOr (a b : XTs) : XTs := fun ρ => do
  let t ← a ρ
  if t then .ret true else b ρ
def tNot (a : XTs) : XTs := fun ρ => do
  let t ← a ρ
  .ret (!t)
def tY : XTs := fun _ => .ret true
def oN : XOs := fun _ => .ret none
def oS (a : XE1) : XOs := fun ρ => do
  let m ← a ρ
  asI m
def iV (a : XE1) : XIs := fun ρ => do
  let m ← a ρ
  itM m
def iR1 (a : XE1) : XIs := fun ρ => do
  let m ← a ρ
  rng1M m
def iR2 (a b : XE1) : XIs := fun ρ => do
  let x ← a ρ
  let y ← b ρ
  rng2M x y
def xM (own : List Nat) (t : Tg) (it : XIs) (c : XTs) (e : XE1) : XE1 := fun ρ => do
  let xs ← it ρ
  let l ← (compL (fun x => bindR (bindT t x (wipeE ρ own)) fun ρ' => do
    let b ← c ρ'
    if b then do
      let m ← e ρ'
      .ret [m]
    else .ret []) xs).noerr
  lstR l
def sN : XS := fun ρ => .ret (.nx, ρ)
def sC (a b : XS) : XS := fun ρ => do
  let p ← a ρ
  thenE p b
def sE (a : XE1) : XS := fun ρ => do
  let _ ← a ρ
  .ret (.nx, ρ)
def sR (a : XE1) : XS := fun ρ => do
  let m ← a ρ
  .ret (.rt m, ρ)
def sRN : XS := fun ρ => .ret (.rt (.fz .non), ρ)
def sBr : XS := fun ρ => .ret (.br, ρ)
def sCt : XS := fun ρ => .ret (.ct, ρ)
def sI (c : XTs) (a b : XS) : XS := fun ρ => do
  let t ← c ρ
  if t then a ρ else b ρ
def sS (i : Nat) (a : XE1) : XS := fun ρ => do
  let m ← a ρ
  setE i m ρ
def sT (ts : List Tg) (a : XE1) : XS := fun ρ => do
  let m ← a ρ
  bindR (bindT (.tp ts) m.toD ρ) fun ρ' => .ret (.nx, ρ')
def sP2 (i j : Nat) (a b : XE1) : XS := fun ρ => do
  let x ← a ρ
  let y ← b ρ
  if decide (i < ρ.length) && decide (j < ρ.length) && decide (i ≠ j) then .ret (.nx, (ρ.set i (some x)).set j (some y)) else .bad
def sP3 (i j k : Nat) (a b c : XE1) : XS := fun ρ => do
  let x ← a ρ
  let y ← b ρ
  let z ← c ρ
  if decide (i < ρ.length) && decide (j < ρ.length) && decide (k < ρ.length) && decide (i ≠ j) && decide (i ≠ k) && decide (j ≠ k) then .ret (.nx, ((ρ.set i (some x)).set j (some y)).set k (some z)) else .bad
def sF (z : Option Nat) (t : Tg) (it : XIs) (b : XS) : XS := fun ρ => do
  let xs ← it (frzE z ρ)
  forL (fun x ρ => bindR (bindT t x ρ) fun ρ' => b ρ') xs (frzE z ρ)
abbrev sW (fuel : Nat) (c : XTs) (b : XS) : XS := whL c b fuel
/-- what a context offers: the written part, room, where errors go -/
structure Ok (X : Cx) (W : Wd) (Wx : WX) (k : Nat) (g : Bool) : Prop where
  K : X.K = W.K
  cm : X.calm = true
  rm : Room k X.A
  tk : Takes X Wx
  gs : g = true → X.A.guards = some []
theorem Ok.u {X : Cx} {W : Wd} {Wx : WX} {k : Nat} {g : Bool} (o : Ok X W Wx k g) : X.A.units + 65 < cLine := by have := o.rm.un; omega
theorem Ok.blk {X : Cx} {W : Wd} {Wx : WX} {k : Nat} {g : Bool} (o : Ok X W Wx k g) {s : Shared} {H : Hp} {scope : Scope} {env : Env} {fp : List Addr} : Ok (X.blk s H scope env fp) W W0 k g := ⟨o.K, o.cm, o.rm, LamX.takes0, o.gs⟩
section
variable {X : Cx} {W : Wd} {Wx : WX} {Ex : XK} {pk g : Bool} {k : Nat} {a b c : Expr} {pos : Pos} {ra rb rc : XE1} {ta tb : XTs}
theorem w_var (i : Nat) {x : Str} (hN : X.N[i]? = some x := by rfl) (hv : Vis X.env.scope x := by first | exact .inl rfl | exact .inr (.inl rfl) | exact .inr (.inr rfl)) (hd : (x == ("__debug__" : Str)) = false := by decide) (hcd : (x == ("__classdict__" : Str)) = false := by decide) :
    PE X (.Name x pos) (XT W Wx pk (xV pk i)) := px_var hN hv hd hcd
theorem w_int {i : Int} {j : Nat} : PE X (.Constant (.int i) j pos) (XT W Wx pk (xC (.int i))) := px_con pe_int fun _ => .int i
theorem w_bl {i : Bool} {j : Nat} : PE X (.Constant (.bool i) j pos) (XT W Wx pk (xC (.bl i))) := px_con pe_bl fun _ => .bl i
theorem w_non {j : Nat} : PE X (.Constant .none j pos) (XT W Wx pk (xC .non)) := px_con pe_non fun _ => .non
theorem w_str {z : Str} {j : Nat} : PE X (.Constant (.str z) j pos) (XT W Wx pk (xC (.str z))) := px_con pe_str fun _ => .str z
theorem w_glob {x : Str} {v : V} {u : Value} (d : D) (hm : X.mg x = some u) (r : RelV v u) (hr : ∀ F, Rep W F v d) (hg : Gl X x := by rfl) (hd : (x == ("__debug__" : Str)) = false := by decide) : PE X (.Name x pos) (XT W Wx pk (xC d)) := px_con (pe_glob hg hm r hd) hr
theorem w_op (o : Ok X W Wx k g) (p : Bop) (ha : PE X a (XT W Wx true ra)) (hb : PE X b (XT W Wx true rb)) : PE X (.BinOp a p.py b pos) (XT W Wx pk (xO (opM p) ra rb)) := px_op2 (op_ok o.K p) (opM_ret p) ha hb
theorem w_neg (ha : PE X a (XT W Wx true ra)) : PE X (.UnaryOp .USub a pos) (XT W Wx pk (xU negM ra)) := px_un neg_ok negM_ret ha
theorem w_cmp (o : Ok X W Wx k g) (p : Cop) (ha : PE X a (XT W Wx true ra)) (hb : PE X b (XT W Wx true rb)) (hm : behindInMarks p.py b = false := by rfl) : PE X (.Compare a [p.py] [b] pos) (XT W Wx pk (xO (cmpM p) ra rb)) := px_cmp (cmp_ok o.K o.u p) (cmpM_ret p) ha hb hm
theorem w_ch (o : Ok X W Wx k g) (p q : Cop) (ha : PE X a (XT W Wx true ra)) (hb : PE X b (XT W Wx true rb)) (hc : PE X c (XT W Wx true rc)) (hm : lastMarks [p.py, q.py] [b, c] = false := by rfl) : PE X (.Compare a [p.py, q.py] [b, c] pos) (XT W Wx pk (x2 (cmpM p) (cmpM q) ra rb rc)) :=
  px_chain (cmp_ok o.K o.u p) (cmp_ok o.K o.u q) (cmpM_ret p) (cmpM_ret q) ha hb hc hm
theorem w_one {op : BoolOp} (ha : PE X a (XT W Wx true ra)) : PE X (.BoolOp op [a] pos) (XT W Wx pk (xOne ra)) := px_one ha
theorem w_and {rest : List Expr} {e1 : Expr} (ha : PE X a (XT W Wx true ra)) (hb : PE X (.BoolOp .And (e1 :: rest) pos) (XT W Wx true rb)) : PE X (.BoolOp .And (a :: e1 :: rest) pos) (XT W Wx pk (xAnd ra rb)) := px_and ha hb
theorem w_or {rest : List Expr} {e1 : Expr} (ha : PE X a (XT W Wx true ra)) (hb : PE X (.BoolOp .Or (e1 :: rest) pos) (XT W Wx true rb)) : PE X (.BoolOp .Or (a :: e1 :: rest) pos) (XT W Wx pk (xOr ra rb)) := px_or ha hb
theorem w_not (ha : PE X a (XT W Wx true ra)) : PE X (.UnaryOp .Not a pos) (XT W Wx pk (xU notM ra)) := px_not ha
theorem w_ite (hc : PT X c (XTt W Wx ta)) (ha : PE X a (XT W Wx pk ra)) (hb : PE X b (XT W Wx pk rb)) : PE X (.IfExp c a b pos) (XT W Wx pk (xIf ta ra rb)) := px_ite hc ha hb
theorem w_tup {es : List Expr} {j : Nat} {rs : XEs} (h : PA X es (XTa W Wx false rs)) : PE X (.Tuple es j pos) (XT W Wx pk (xT rs)) := px_tup h
theorem w_lst {es : List Expr} {rs : XEs} (h : PA X es (XTa W Wx false rs)) : PE X (.List es pos) (XT W Wx pk (xL rs)) := px_lst h
theorem w_ix (o : Ok X W Wx k g) (ha : PE X a (XT W Wx true ra)) (hb : PE X b (XT W Wx true rb)) (hs : PlainIx b := by intro _ _; rfl) : PE X (.Subscript a b pos) (XT W Wx pk (xI pk ra rb)) := px_idx o.K ha hb hs
theorem w_sl (o : Ok X W Wx k g) {lo hi : Option Expr} {rl rh : XOs} {p2 : Pos} (ha : PE X a (XT W Wx true ra)) (hl : PO X lo (XTo W Wx rl)) (hh : PO X hi (XTo W Wx rh)) : PE X (.Subscript a (.Slice lo hi none p2) pos) (XT W Wx pk (xSl ra rl rh)) := px_slc o.K ha hl hh
theorem o_no : PO X none (XTo W Wx oN) := po_none_x
theorem o_so (ha : PE X a (XT W Wx true ra)) : PO X (some a) (XTo W Wx (oS ra)) := po_some_x ha
theorem a_n : PA X [] (XTa W Wx pk eN) := xa_nil
theorem a_c {es : List Expr} {rs : XEs} (ha : PE X a (XT W Wx pk ra)) (hr : PA X es (XTa W Wx pk rs)) (hs : starEach (a :: es) X.env = (false, eval a X.env) :: starEach es X.env := by rfl) : PA X (a :: es) (XTa W Wx pk (eC ra rs)) := xa_cons ha hr hs
theorem a_s (o : Ok X W Wx k g) {es : List Expr} {rs : XEs} {p : Pos} (ha : PE X a (XT W Wx true ra)) (hr : PA X es (XTa W Wx pk rs)) : PA X (.Starred a p :: es) (XTa W Wx pk (eS ra rs)) := xa_star o.K ha hr
theorem k_n : PK X [] (XTa W Wx pk eN) := xk_nil
theorem k_c {nm : Option Str} {kpos : Pos} {es : List Keyword} {rs : XEs} (ha : PE X a (XT W Wx pk ra)) (hr : PK X es (XTa W Wx pk rs)) : PK X (⟨nm, a, kpos⟩ :: es) (XTa W Wx pk (eC ra rs)) := xk_cons ha hr
/-! tests -/
theorem t_v (o : Ok X W Wx k g) (ha : PE X a (XT W Wx true ra)) (he : ∀ whole, isTrue a X.env whole = (do let v ← whole; standAt a.pos; holding [v] (truthy v)) := by intro _; rfl) : PT X a (XTt W Wx (tV ra)) := pt_val_x o.K ha he
theorem cmpM_bl (o : Cop) (x y m : M) (h : cmpM o x y = .ret m) : ∃ k, m = .fz (.bl k) := by
  unfold cmpM at h
  repeat' split at h
  all_goals first | (cases h; exact ⟨_, rfl⟩) | (unfold cmpI at h; split at h <;> cases h; exact ⟨_, rfl⟩) | cases h
theorem t_cmp (o : Ok X W Wx k g) (p : Cop) (ha : PE X a (XT W Wx true ra)) (hb : PE X b (XT W Wx true rb)) (hm : behindInMarks p.py b = false := by rfl) : PT X (.Compare a [p.py] [b] pos) (XTt W Wx (tV (xO (cmpM p) ra rb))) :=
  pt_cmp_x o.K (cmp_ok o.K o.u p) (cmpM_ret p) (cmpM_bl p) ha hb hm
theorem t_ch (o : Ok X W Wx k g) (p q : Cop) (ha : PE X a (XT W Wx true ra)) (hb : PE X b (XT W Wx true rb)) (hc : PE X c (XT W Wx true rc)) (hm : lastMarks [p.py, q.py] [b, c] = false := by rfl) : PT X (.Compare a [p.py, q.py] [b, c] pos) (XTt W Wx (tV (x2 (cmpM p) (cmpM q) ra rb rc))) :=
  pt_chain_x (cmp_ok o.K o.u p) (cmp_ok o.K o.u q) (cmpM_ret p) (cmpM_ret q) (cmpM_bl q) ha hb hc hm
theorem t_and1 (ha : PT X a (XTt W Wx ta)) : PW X (.BoolOp .And [a] pos) (XTt W Wx ta) := pw_and1_x ha
theorem t_or1 (ha : PT X a (XTt W Wx ta)) : PW X (.BoolOp .Or [a] pos) (XTt W Wx ta) := pw_or1_x ha
theorem t_and {rest : List Expr} {e1 : Expr} (ha : PT X a (XTt W Wx ta)) (hb : PW X (.BoolOp .And (e1 :: rest) pos) (XTt W Wx tb)) : PW X (.BoolOp .And (a :: e1 :: rest) pos) (XTt W Wx (tAnd ta tb)) := pw_and_x ha hb
theorem t_or {rest : List Expr} {e1 : Expr} (ha : PT X a (XTt W Wx ta)) (hb : PW X (.BoolOp .Or (e1 :: rest) pos) (XTt W Wx tb)) : PW X (.BoolOp .Or (a :: e1 :: rest) pos) (XTt W Wx (tOr ta tb)) := pw_or_x ha hb
theorem t_not (ha : PT X a (XTt W Wx ta)) : PT X (.UnaryOp .Not a pos) (XTt W Wx (tNot ta)) := pt_not_x ha
theorem pts_imp {e : List Expr} {t t' : TT} (h : PTs X e t) (i : ∀ σ H Q, t' σ H Q → t σ H Q) : PTs X e t' := ⟨fun pins s σ H Q I q => h.run pins s σ H Q I (i σ H Q q)⟩
theorem c_n : PTs X [] (XTt W Wx tY) := by
  refine pts_imp pts_nil fun σ H Q h => ?_
  obtain ⟨F, A, ρ, G, h⟩ := h
  exact h F H (Grow.refl G.st)
theorem c_1 (h : PT X a (XTt W Wx ta)) : PTs X [a] (XTt W Wx ta) := pts_one h
/-! built-in functions -/
theorem w_bltB (o : Ok X W Wx k g) (id : String) {es : List Expr} {e1 : Expr} {x : Str} {p : Pos} {f : List M → R M} {rs : XEs} (hc : CallR X (.builtin id) (RMn W f)) (hi : ∀ x, isRet (f x) = true) (hm : X.mg x = none) (ha : PA X (e1 :: es) (XTa W Wx true rs))
    (hv : bootBuiltins x = some (.builtin id) := by decide +kernel) (hg : Gl X x := by rfl) (hn : x ≠ "__name__" := by decide) (hdb : (x == ("__debug__" : Str)) = false := by decide) (he : starEach (e1 :: es) X.env = (false, eval e1 X.env) :: starEach es X.env := by rfl) (hpl : (backTo pos (starEach es X.env)).any (·.1) = false := by rfl) :
    PE X (.Call (.Name x p) (e1 :: es) [] pos) (XT W Wx pk (xB f rs)) := px_bltB hc hi hg hm hv ha hn hdb he hpl
theorem w_bltT (o : Ok X W Wx k g) (T : String) {es : List Expr} {e1 : Expr} {x : Str} {p : Pos} {f : List M → R M} {rs : XEs} (hc : CallR X (.type T) (RMn W f)) (hi : ∀ x, isRet (f x) = true) (hm : X.mg x = none) (ha : PA X (e1 :: es) (XTa W Wx true rs))
    (hv : bootBuiltins x = some (.type T) := by decide +kernel) (hg : Gl X x := by rfl) (hn : x ≠ "__name__" := by decide) (hdb : (x == ("__debug__" : Str)) = false := by decide) (he : starEach (e1 :: es) X.env = (false, eval e1 X.env) :: starEach es X.env := by rfl) (hpl : (backTo pos (starEach es X.env)).any (·.1) = false := by rfl) :
    PE X (.Call (.Name x p) (e1 :: es) [] pos) (XT W Wx pk (xB f rs)) := px_bltT hc hi hg hm hv ha hn hdb he hpl
theorem w_isi (o : Ok X W Wx k g) (t : Ty) {x : Str} {p pc : Pos} (ht : t.isB = true) (hm : X.mg "isinstance" = none) (hmc : X.mg x = none) (ha : PE X a (XT W Wx true ra)) (hv : bootBuiltins x = some (.type t.py) := by decide +kernel) (hg : Gl X "isinstance" := by rfl) (hgc : Gl X x := by rfl) (hn : x ≠ "__name__" := by decide) (hdb : (x == ("__debug__" : Str)) = false := by decide)
    (he : starEach [a, .Name x pc] X.env = (false, eval a X.env) :: starEach [.Name x pc] X.env := by rfl) : PE X (.Call (.Name "isinstance" p) [a, .Name x pc] [] pos) (XT W Wx pk (xU (isiM t) ra)) :=
  px_isi o.K ht hg hm (pe_bltn hgc hmc hv rfl hn hdb) ha he rfl
/-! calls -/
theorem w_call (o : Ok X W Wx k g) {n : Nat} {e1 : Expr} {es : List Expr} {x : Str} {p : Pos} {ad : Addr} {ps : List Str} {kws : List (List Str × List Nat)} {φ : List D → R M} {rs : XEs} (C : FnC W X.prog X.w X.K X.mg X.base g k x ad ps kws φ) (ha : PA X (e1 :: es) (XTa W Wx false rs))
    (hms : ∀ (ρ : En) (Q : List M → Prop) (E : Er → Prop), (rs ρ).wp Q E → (rs ρ).wp (fun ms => ms.length = n ∧ Q ms) E) (hn : ps.length = n := by rfl) (hg : Gl X x := by rfl) (hdb : (x == ("__debug__" : Str)) = false := by decide)
    (he : starEach (e1 :: es) X.env = (false, eval e1 X.env) :: starEach es X.env := by rfl) (hpl : (backTo pos (starEach es X.env)).any (·.1) = false := by rfl) : PE X (.Call (.Name x p) (e1 :: es) [] pos) (XT W Wx pk (xF φ n rs)) := by
  subst hn
  exact px_call C o.gs o.rm o.tk hg ha hdb he hpl hms
theorem w_callK (o : Ok X W Wx k g) {kws : List Keyword} {x : Str} {p : Pos} {ad : Addr} {ps ks : List Str} {kl : List (List Str × List Nat)} {pm : List Nat} {φ : List D → R M} {rs : XEs} (C : FnC W X.prog X.w X.K X.mg X.base g k x ad ps kl φ) (hq : (ks, pm) ∈ kl) (ha : PK X kws (XTa W Wx false rs))
    {n : Nat} (hms : ∀ (ρ : En) (Q : List M → Prop) (E : Er → Prop), (rs ρ).wp Q E → (rs ρ).wp (fun ms => ms.length = n ∧ Q ms) E) (hn : ks.length = n := by rfl) (hg : Gl X x := by rfl) (hdb : (x == ("__debug__" : Str)) = false := by decide)
    (hall : (backToKw pos (keywordEach kws X.env)).all (·.1.isSome) = true := by rfl) (hks : (backToKw pos (keywordEach kws X.env)).filterMap (·.1) = ks := by rfl) (hpl : ((backTo pos (starEach [] X.env)).any (·.1) || (backToKw pos (keywordEach kws X.env)).any (·.1.isNone)) = false := by rfl) :
    PE X (.Call (.Name x p) [] kws pos) (XT W Wx pk (xK φ pm rs)) := by
  subst hn
  exact px_callK C hq o.gs o.rm o.tk hg ha hdb hall hks hpl hms
theorem len_n : ∀ (ρ : En) (Q : List M → Prop) (E : Er → Prop), (eN ρ).wp Q E → (eN ρ).wp (fun ms => ms.length = 0 ∧ Q ms) E := fun ρ Q E h => ⟨rfl, h⟩
theorem len_c {n : Nat} {rs : XEs} (hr : ∀ (ρ : En) (Q : List M → Prop) (E : Er → Prop), (rs ρ).wp Q E → (rs ρ).wp (fun ms => ms.length = n ∧ Q ms) E) : ∀ (ρ : En) (Q : List M → Prop) (E : Er → Prop), (eC ra rs ρ).wp Q E → (eC ra rs ρ).wp (fun ms => ms.length = n + 1 ∧ Q ms) E := fun ρ Q E h => by
  refine R.wp_bind.mpr (R.wp_mono (fun m q => ?_) (fun _ q => q) (R.wp_bind.mp h))
  refine R.wp_bind.mpr (R.wp_mono (fun ms q => ?_) (fun _ q => q) (hr ρ _ _ (R.wp_bind.mp q)))
  exact ⟨by rw [List.length_cons, q.1], q.2⟩
/-! targets, iterators, comprehensions -/
theorem g_n (i : Nat) {x : Str} (hN : X.N.Nodup) (hi : X.N[i]? = some x := by rfl) (hx : Loc X.env.scope x := by first | exact .inl rfl | exact .inr rfl) (hf : X.fn x = true ∨ X.env.scope.names.lookup x = some .local := by first | exact .inl rfl | exact .inr rfl) : PG X (.Name x pos) (XG W (.nm i)) := pg_nm hN hi hx hf
theorem g_nil : PGs X [] (XGs W []) := pgs_nil_x
theorem g_cons {t : Tg} {ts : List Tg} {e : Expr} {es : List Expr} (h1 : PG X e (XG W t)) (h2 : PGs X es (XGs W ts)) (hs : (assignEach (e :: es) X.env).map (·.2) = assign e X.env :: (assignEach es X.env).map (·.2) := by rfl) : PGs X (e :: es) (XGs W (t :: ts)) := pgs_cons_x h1 h2 hs
theorem g_t (o : Ok X W Wx k g) {ts : List Tg} {es : List Expr} {j : Nat} (h : PGs X es (XGs W ts)) (hn : (assignEach es X.env).length = ts.length := by rfl) (hst : (assignEach es X.env).findIdx? (·.1) = none := by rfl) : PG X (.Tuple es j pos) (XG W (.tp ts)) := pg_tp o.K o.cm h hn hst
theorem i_v (o : Ok X W Wx k g) {tg : Expr} (ha : PE X a (XT W Wx pk ra)) : PI X tg a (XI W Wx pk (iV ra)) := px_itv o.K ha
theorem i_r1 {tg : Expr} {p : Pos} (hm : X.mg "range" = none) (ha : PE X a (XT W Wx true ra)) (hg : Gl X "range" := by rfl) (hs : starEach (a :: []) X.env = (false, eval a X.env) :: starEach [] X.env := by rfl) : PI X tg (.Call (.Name "range" p) [a] [] pos) (XI W Wx pk (iR1 ra)) := px_rng1 hg hm ha hs
theorem i_r2 {tg : Expr} {p : Pos} (hm : X.mg "range" = none) (ha : PE X a (XT W Wx true ra)) (hb : PE X b (XT W Wx true rb)) (hg : Gl X "range" := by rfl) (hs : starEach [a, b] X.env = (false, eval a X.env) :: starEach [b] X.env := by rfl) (hs2 : starEach [b] X.env = (false, eval b X.env) :: starEach [] X.env := by rfl) :
    PI X tg (.Call (.Name "range" p) [a, b] [] pos) (XI W Wx pk (iR2 ra rb)) := px_rng2 hg hm ha hb hs hs2
theorem w_comp (o : Ok X W Wx k g) (own : List (Str × Nat)) {ow : List Nat} {elt tg iter : Expr} {ifs : List Expr} {scope : Scope} {t : Tg} {ri : XIs} {rt : XTs} {re : XE1} (hN : X.N.Nodup) (hi : PI X tg iter (XI W Wx true ri)) (ok : blkC X.N X.env.scope scope own = true)
    (hb : ∀ (s : Shared) (H : Hp) (C : Addr) (cl : List (Str × Addr)) (fp : List Addr), PG (X.blk s H scope (compEnvC scope cl C X.env) fp) tg (XG W t) ∧ PTs (X.blk s H scope (compEnvC scope cl C X.env) fp) ifs (XTt W W0 rt) ∧ PE (X.blk s H scope (compEnvC scope cl C X.env) fp) elt (XT W W0 false re))
    (how : own.map (·.2) = ow := by rfl) (hsub : ∀ j ∈ t.slots, j ∈ own.map (·.2) := by decide) (hs : ∀ x, foldedSetIterable iter X.env x = pure x := by intro _; rfl) : PE X (.ListComp elt [⟨tg, iter, ifs, 0⟩] scope pos) (XT W Wx pk (xM ow t ri rt re)) := by
  subst how
  exact px_comp o.cm hN hi (blkOk_by ok) hsub (fun s H C cl fp => (hb s H C cl fp).1) (fun s H C cl fp => (hb s H C cl fp).2.1) (fun s H C cl fp => (hb s H C cl fp).2.2) hs
/-! statements -/
theorem s_n : PSs X [] (ST W Ex sN) := ss_nil
theorem s_c {st : Stmt} {rest : List Stmt} {r1 r2 : XS} (h1 : PS X st (ST W Ex r1)) (h2 : PSs X rest (ST W Ex r2)) : PSs X (st :: rest) (ST W Ex (sC r1 r2)) := ss_cons h1 h2
theorem s_pass : PS X (.Pass pos) (ST W Ex sN) := ss_pass
theorem s_br : PS X (.Break pos) (ST W Ex sBr) := ss_break
theorem s_ct : PS X (.Continue pos) (ST W Ex sCt) := ss_continue
theorem s_e {e : Expr} (he : PE X e (XT W (Wk0 Ex) true ra)) (hs : swapsWith e none pos.line X.env = pure false := by rfl) : PS X (.Expr e pos) (ST W Ex (sE ra)) := ss_exp he hs
theorem s_r {e : Expr} (he : PE X e (XT W (Wk0 Ex) false ra)) : PS X (.Return (some e) pos) (ST W Ex (sR ra)) := ss_ret he
theorem s_rn : PS X (.Return none pos) (ST W Ex sRN) := ss_retN
theorem s_i {a b : List Stmt} {rc : XTs} {ra rb : XS} (hc : PT X c (XTt W (Wk0 Ex) rc)) (ha : PSs X a (ST W Ex ra)) (hb : PSs X b (ST W Ex rb)) : PS X (.If c a b pos) (ST W Ex (sI rc ra rb)) := ss_if hc ha hb
theorem s_s (i : Nat) {x : Str} {e : Expr} {pos' : Pos} (hN : X.N.Nodup) (he : PE X e (XT W (Wk0 Ex) false ra)) (hi : X.N[i]? = some x := by rfl) (hx : Loc X.env.scope x := by first | exact .inl rfl | exact .inr rfl) (hs : swapsWith e (some (.Name x pos')) pos.line X.env = pure false := by rfl) (hf : X.fn x = true ∨ X.env.scope.names.lookup x = some .local := by first | exact .inl rfl | exact .inr rfl) :
    PS X (.Assign [.Name x pos'] e pos) (ST W Ex (sS i ra)) := ss_set hN hi hx he hs hf
theorem s_t {ts : List Tg} {tg e : Expr} (he : PE X e (XT W (Wk0 Ex) false ra)) (hg : PG X tg (XG W (.tp ts))) (hs : swapsWithSole [tg] e pos.line X.env = pure false := by rfl) (hw : swappedStores [tg] e X.env = pure none := by rfl) (h1 : (assignEach [tg] X.env).map (·.2) = [assign tg X.env] := by rfl) :
    PS X (.Assign [tg] e pos) (ST W Ex (sT ts ra)) := ss_asgT he hg hs hw h1
theorem s_p2 (o : Ok X W (Wk0 Ex) k g) (i j : Nat) {x y : Str} {a b : Expr} {px py pt : Pos} {kt k2 pt2} (hN : X.N.Nodup) (ha : PE X a (XT W (Wk0 Ex) false ra)) (hb : PE X b (XT W (Wk0 Ex) false rb)) (hi : X.N[i]? = some x := by rfl) (hj : X.N[j]? = some y := by rfl) (hij : i ≠ j := by decide)
    (hx : X.env.scope.names.lookup x = some .local := by rfl) (hy : X.env.scope.names.lookup y = some .local := by rfl)
    (he : starEach [a, b] X.env = (false, eval a X.env) :: starEach [b] X.env := by rfl) (he2 : starEach [b] X.env = (false, eval b X.env) :: starEach [] X.env := by rfl)
    (hw : swappedStores [.Tuple [.Name x px, .Name y py] kt pt] (.Tuple [a, b] k2 pt2) X.env = pure (some [x, y]) := by rfl)
    (hs : swapsWithSole [.Tuple [.Name x px, .Name y py] kt pt] (.Tuple [a, b] k2 pt2) pos.line X.env = pure false := by rfl) :
    PS X (.Assign [.Tuple [.Name x px, .Name y py] kt pt] (.Tuple [a, b] k2 pt2) pos) (ST W Ex (sP2 i j ra rb)) := ss_par2 o.cm hN hi hj hij hx hy ha hb he he2 hw hs
theorem s_p3 (o : Ok X W (Wk0 Ex) k g) (i j l : Nat) {x y z : Str} {a b c : Expr} {px py pz pt : Pos} {kt k2 pt2} (hN : X.N.Nodup) (ha : PE X a (XT W (Wk0 Ex) false ra)) (hb : PE X b (XT W (Wk0 Ex) false rb)) (hcc : PE X c (XT W (Wk0 Ex) false rc)) (hi : X.N[i]? = some x := by rfl) (hj : X.N[j]? = some y := by rfl) (hk : X.N[l]? = some z := by rfl)
    (hij : i ≠ j := by decide) (hik : i ≠ l := by decide) (hjk : j ≠ l := by decide)
    (hx : X.env.scope.names.lookup x = some .local := by rfl) (hy : X.env.scope.names.lookup y = some .local := by rfl) (hz : X.env.scope.names.lookup z = some .local := by rfl)
    (he : starEach [a, b, c] X.env = (false, eval a X.env) :: starEach [b, c] X.env := by rfl) (he2 : starEach [b, c] X.env = (false, eval b X.env) :: starEach [c] X.env := by rfl) (he3 : starEach [c] X.env = (false, eval c X.env) :: starEach [] X.env := by rfl)
    (hw : swappedStores [.Tuple [.Name x px, .Name y py, .Name z pz] kt pt] (.Tuple [a, b, c] k2 pt2) X.env = pure (some [x, y, z]) := by rfl)
    (hs : swapsWithSole [.Tuple [.Name x px, .Name y py, .Name z pz] kt pt] (.Tuple [a, b, c] k2 pt2) pos.line X.env = pure false := by rfl) :
    PS X (.Assign [.Tuple [.Name x px, .Name y py, .Name z pz] kt pt] (.Tuple [a, b, c] k2 pt2) pos) (ST W Ex (sP3 i j l ra rb rc)) := ss_par3 o.cm hN hi hj hk hij hik hjk hx hy hz ha hb hcc he he2 he3 hw hs
theorem s_au (i : Nat) (p : Bop) {x : Str} {e : Expr} {pos' : Pos} (hN : X.N.Nodup) (ho : p = .add ∨ p = .sub ∨ p = .mul) (he : PE X e (XT W (Wk0 Ex) true ra)) (hi : X.N[i]? = some x := by rfl) (hx : Loc X.env.scope x := by first | exact .inl rfl | exact .inr rfl) (hf : X.fn x = true ∨ X.env.scope.names.lookup x = some .local := by first | exact .inl rfl | exact .inr rfl) :
    PS X (.AugAssign (.Name x pos') p.py e pos) (ST W Ex (augR i p ra)) := ss_aug hN hi hx he ho hf
theorem s_app (o : Ok X W (Wk0 Ex) k g) (i : Nat) {x : Str} {e : Expr} {pos' apos cpos : Pos} (he : PE X e (XT W (Wk0 Ex) false ra)) (hi : X.N[i]? = some x := by rfl) (hv : Vis X.env.scope x := by first | exact .inl rfl | exact .inr (.inl rfl) | exact .inr (.inr rfl)) (hd : (x == ("__debug__" : Str)) = false := by decide) (hcd : (x == ("__classdict__" : Str)) = false := by decide)
    (hbase : attributeBase (.Name x pos') "append" X.env (eval (.Name x pos') X.env) = eval (.Name x pos') X.env := by rfl)
    (hfew : ((backTo cpos (starEach [e] X.env)).all (fun x => !x.1) && (backToKw cpos (keywordEach [] X.env)).all (fun x => x.1.isSome) && decide (([e] : List Expr).length + ([] : List Keyword).length + (if ([] : List Keyword).isEmpty then 0 else 1) < 30)) = true := by rfl)
    (hline : (apos.endLine == cpos.line) = true := by rfl) (hs : starEach [e] X.env = (false, eval e X.env) :: starEach [] X.env := by rfl) (hpl : (backTo cpos (starEach [] X.env)).any (·.1) = false := by rfl) :
    PS X (.Expr (.Call (.Attribute (.Name x pos') "append" apos) [e] [] cpos) pos) (ST W Ex (appR i ra)) := ss_app hi hv hd hcd o.K he hbase hfew hline hs hpl
theorem s_clr (i : Nat) {x : Str} {pos' apos cpos : Pos} (hi : X.N[i]? = some x := by rfl) (hv : Vis X.env.scope x := by first | exact .inl rfl | exact .inr (.inl rfl) | exact .inr (.inr rfl)) (hd : (x == ("__debug__" : Str)) = false := by decide) (hcd : (x == ("__classdict__" : Str)) = false := by decide)
    (hbase : attributeBase (.Name x pos') "clear" X.env (eval (.Name x pos') X.env) = eval (.Name x pos') X.env := by rfl) (hline : (apos.endLine == cpos.line) = true := by rfl) :
    PS X (.Expr (.Call (.Attribute (.Name x pos') "clear" apos) [] [] cpos) pos) (ST W Ex (clrR i)) := ss_clr hi hv hd hcd hbase hline
theorem s_ext (i : Nat) {x : Str} {e : Expr} {pos' apos cpos : Pos} (he : PE X e (XT W (Wk0 Ex) true ra)) (hi : X.N[i]? = some x := by rfl) (hv : Vis X.env.scope x := by first | exact .inl rfl | exact .inr (.inl rfl) | exact .inr (.inr rfl)) (hd : (x == ("__debug__" : Str)) = false := by decide) (hcd : (x == ("__classdict__" : Str)) = false := by decide)
    (hbase : attributeBase (.Name x pos') "extend" X.env (eval (.Name x pos') X.env) = eval (.Name x pos') X.env := by rfl)
    (hfew : ((backTo cpos (starEach [e] X.env)).all (fun x => !x.1) && (backToKw cpos (keywordEach [] X.env)).all (fun x => x.1.isSome) && decide (([e] : List Expr).length + ([] : List Keyword).length + (if ([] : List Keyword).isEmpty then 0 else 1) < 30)) = true := by rfl)
    (hline : (apos.endLine == cpos.line) = true := by rfl) (hs : starEach [e] X.env = (false, eval e X.env) :: starEach [] X.env := by rfl) (hpl : (backTo cpos (starEach [] X.env)).any (·.1) = false := by rfl) :
    PS X (.Expr (.Call (.Attribute (.Name x pos') "extend" apos) [e] [] cpos) pos) (ST W Ex (extR i ra)) := ss_ext hi hv hd hcd he hbase hfew hline hs hpl
theorem s_f (o : Ok X W (Wk0 Ex) k g) (z : Option Nat) {t : Tg} {tg iter : Expr} {body : List Stmt} {ri : XIs} {rb : XS} (hp : PassesOwn (model X.prog X.w) X.A X.env X.xe) (hi : PI X tg iter (XI W (Wk0 Ex) false ri)) (hg : PG X tg (XG W t)) (hb : PSs X body (ST W Ex rb)) (hs : ∀ x, foldedSetIterable iter X.env x = pure x := by intro _; rfl) :
    PS X (.For tg iter body [] pos) (ST W Ex (sF z t ri rb)) := ss_for hp o.cm hi hg hb hs
theorem s_w {body : List Stmt} {rc : XTs} {rb : XS} (fuel : Nat) (hp : PassesOwn (model X.prog X.w) X.A X.env X.xe) (hc : PT X c (XTt W (Wk0 Ex) rc)) (hb : PSs X body (ST W Ex rb)) : PS X (.While c body [] pos) (ST W Ex (sW fuel rc rb)) := ss_while fuel hp hc hb
end
/-! ### a def -/
/-- what a body's end gives -/
def retR (p : Fl × En) : R M := match p.1 with
  | .nx => .ret (.fz .non)
  | .rt m => .ret m
  | _ => .bad
/-- the meaning of a def with n names, by its body's -/
def fnR (n : Nat) (r : XS) : List D → R M := fun ds => do
  let p ← r (ds.map (fun d => some (.fz d)) ++ List.replicate (n - ds.length) none)
  retR p
theorem slots_start {W : Wd} {F H : Hp} : ∀ {vs : List V} {ds : List D} {m : Nat}, RepL W F vs ds → Slots W F H [] (ds.map (fun d => some (M.fz d)) ++ List.replicate m none) (vs.map some ++ List.replicate m none)
  | _, _, 0, .nil => .nil
  | _, _, m + 1, .nil => .non (slots_start (m := m) .nil)
  | _, _, m, .cons a b => .som (A := []) (B := []) (.fz a) (slots_start b)
theorem fn_fin {W : Wd} {r : XS} {n : Nat} {ds : List D} {vs : List V} {F H : Hp} {N : List Str} {Q : VK} {E : XK} (st : St0 W F H) (rp : RepL W F vs ds) (hn : N.length = n)
    (h : (fnR n r ds).wp (fun m => ∀ v F' H' A', Grow W F H F' H' → RepM W F' H' A' v m → (∀ a ∈ A', H a = none) → A'.Nodup → Q v H') (fun e => ∀ cl d F' H', Grow W F H F' H' → ErR W F' cl d e → E cl d H')) :
    ST W E r { nx := fun _ H' => Q .non H', rt := Q } (L2.start N vs) H := by
  refine ⟨F, [], ds.map (fun d => some (.fz d)) ++ List.replicate (n - ds.length) none, ⟨st, ?_, List.nodup_nil⟩, R.wp_mono (fun p q F' H' A' sp s' => ?_) (fun e q cl d F' H' A' sp s' he => ?_) (R.wp_bind.mp h)⟩
  · have := slots_start (W := W) (H := H) (m := n - ds.length) rp
    unfold L2.start
    rw [hn, rp.length]
    exact this
  · obtain ⟨fl, ρ'⟩ := p
    have g : Grow W F H F' H' := ⟨sp.ff, s', fun a o e ng => sp.keep a o e ng (by simp), fun a o e n => sp.nf a o e n (by simp)⟩
    have nw : ∀ a ∈ A', H a = none := fun a ha => (sp.new a ha).elim (fun z => absurd z (by simp)) id
    cases fl with
    | nx => exact fun σ' _ => q .non F' H' [] g (.fz .non) (fun _ z => absurd z (by simp)) List.nodup_nil
    | br => exact (show False from q).elim
    | ct => exact (show False from q).elim
    | rt m => exact fun v rv nd => q v F' H' A' g rv nw nd
  · exact q cl d F' H' ⟨sp.ff, s', fun a o e ng => sp.keep a o e ng (by simp), fun a o e n => sp.nf a o e n (by simp)⟩ he
/-- a def keeps its promise, by its body's meaning -/
theorem fn_ok {W : Wd} {P : Program} {w : World} {K : PySem.W.Frag} {mg : Str → Option Value} {base : Heap} {g : Bool} {x : Str} {st : Stmt} {f : Addr} {N ps : List Str} {k : Nat} {r : XS} {oc kV doc pm cdv ct : Value} {od an : Option Addr} {osl : Array (Option Value)} (hK : K = W.K)
    (lk : K.lookup f = some ⟨oc, od, .func (PySem.W.fnOf x x (defArgs st) (defBody st) (defScope st) .none kV doc pm an cdv ct), osl⟩) (hcd : PySem.W.codeIn K cdv x = true) (S : FnScope N ps (defScope st))
    (hbody : ∀ (E : XK) (A : Around) (outer : List Env) (s : Shared) (H : Hp), Ok (cxOf (L2.CX P w) P w K mg base N x (defScope st) f cdv A outer s H E) W (Wk0 E) k g →
      PSs (cxOf (L2.CX P w) P w K mg base N x (defScope st) f cdv A outer s H E) (defBody st) (ST W E r)) : FnG g P w K mg base (k + 1) f (PySem.W.fnOf x x (defArgs st) (defBody st) (defScope st) .none kV doc pm an cdv ct) ps (FSp W ps.length (fnR N.length r)) := by
  refine ⟨fun vs H Q E h => h.1, fun A outer s H args us vs Q E hgs hr e0 hb rv h => ?_⟩
  refine LamX.run_ofS lk hcd S hr e0 hb rv h.1 fun hr' => ?_
  obtain ⟨hl, F0, ds, st0, rp, hw⟩ := h
  exact ⟨_, hbody E A outer s H ⟨hK, rfl, hr', takes_of rfl rfl rfl rfl, hgs⟩, fn_fin st0 rp rfl hw⟩
theorem FnG.up {P : Program} {w : World} {K : PySem.W.Frag} {mg : Str → Option Value} {base : Heap} {k : Nat} {f : Addr} {fd : FuncData} {ps : List Str} {sp : Sp} {g : Bool} (h : FnG false P w K mg base k f fd ps sp) : FnG g P w K mg base k f fd ps sp := ⟨h.len, fun A outer s H args us vs Q E _ => h.run A outer s H args us vs Q E (fun z => nomatch z)⟩
theorem FnC.gu {W : Wd} {P : Program} {w : World} {K : PySem.W.Frag} {mg : Str → Option Value} {base : Heap} {k : Nat} {x : Str} {a : Addr} {ps : List Str} {kws : List (List Str × List Nat)} {φ : List D → R M} {g : Bool} (C : FnC W P w K mg base false k x a ps kws φ) : FnC W P w K mg base g k x a ps kws φ := by
  obtain ⟨⟨fd, i, hi, r, q⟩, gl, kp⟩ := C
  exact ⟨⟨fd, i, hi, r.up, q⟩, gl, kp⟩
theorem FnC.up {W : Wd} {P : Program} {w : World} {K : PySem.W.Frag} {mg : Str → Option Value} {base : Heap} {g : Bool} {j k : Nat} {x : Str} {a : Addr} {ps : List Str} {kws : List (List Str × List Nat)} {φ : List D → R M} (C : FnC W P w K mg base g j x a ps kws φ) (h : j ≤ k) : FnC W P w K mg base g k x a ps kws φ := by
  obtain ⟨⟨fd, i, hi, r⟩, g, kp⟩ := C
  exact ⟨⟨fd, i, Nat.le_trans hi h, r⟩, g, kp⟩
end Bx
/-! Bx21: facts about errors, and the rules that use them; repr -/
namespace Bx
open PySem PySem.Spec L2
abbrev veAll : List Value := [.type "ValueError", .type "Exception", .type "BaseException", .type "object"]
/-- an own error class without a field, the n-th -/
structure ErP (W : Wd) (K : PySem.W.Frag) (mg : Str → Option Value) (n : Nat) (x : Str) : Prop where
  q : PySem.W.excIn K (W.clsA n) veAll "ValueError.__new__" = true
  gC : mg x = some (.ref (W.clsA n))
  kC : PySem.W.keepIn K (.ref (W.clsA n)) = true
  exC : PySem.W.subIn K (.ref (W.clsA n)) (.type "BaseException") = some true
  tyC : PySem.W.typeIn K (.ref (W.clsA n)) = some (.type "type")
  hf : W.hf n = false
/-- .. with the field f -/
structure ErF (W : Wd) (P : Program) (K : PySem.W.Frag) (mg : Str → Option Value) (n : Nat) (x f msg : Str) : Prop where
  T : ∃ fI, PySem.SupX.SupTxt P K mg x (W.clsA n) fI f msg
  FL : PySem.SupX.Fld f
  hf : W.hf n = true
  fl : W.fld n = f
/-- isinstance against the class x -/
structure IsC (W : Wd) (mg : Str → Option Value) (x : Str) (sub : List Bool) : Prop where
  ex : ∃ D, mg x = some (.ref D) ∧ (∀ k b, sub[k]? = some b → EcT W.K (W.clsA k) ∧ PySem.W.kitOne W.K (.ref (W.clsA k)) (.ref D) = some b) ∧ PySem.W.kitOne W.K (.type "NoneType") (.ref D) = some false
structure AtC (W : Wd) (f : Str) (ok : Nat → Bool) : Prop where
  ex : ∀ k, ok k = true → EcT W.K (W.clsA k) ∧ W.fld k = f ∧ PySem.W.findIn W.K (.ref (W.clsA k)) f = some none ∧ W.hf k = true
/-- defs as values: T tells their meanings -/
structure FnT (W : Wd) (P : Program) (w : World) (K : PySem.W.Frag) (mg : Str → Option Value) (base : Heap) (g : Bool) (k n : Nat) (T : Nat → Option (List D → R M)) : Prop where
  ex : ∀ j φ, T j = some φ → ∃ fd q ps, q ≤ k ∧ ps.length = n ∧ FnG g P w K mg base q (W.fnA j) fd ps (FSp W n φ) ∧ Binds K fd ps [] ∧ PySem.W.keepIn K (.ref (W.fnA j)) = true
def xFV (T : Nat → Option (List D → R M)) (i n : Nat) (rs : XEs) : XE1 := fun ρ => match ρ[i]? with
  | some (some (.fz (.fn j))) => match T j with
    | some φ => do
      let ms ← rs ρ
      φ ((List.range n).map fun k => (toDs ms).getD k .non)
    | none => .bad
  | _ => .bad
/-- repr of data -/
def reprM (m : M) : R M := if pl 60 m.toD && (py m.toD).showable && decide ((py m.toD).shown.length ≤ sz) then .ret (.fz (.str (py m.toD).shown)) else .bad
theorem reprM_ret (m : M) : isRet (reprM m) = true := by
  unfold reprM
  split <;> rfl
theorem repr_ret : ∀ l, isRet (arg1 reprM l) = true := arg1_ret reprM_ret
section
variable {X : Cx} {W : Wd} {Wx : WX} {Ex : XK} {pk g : Bool} {k : Nat} {a b c : Expr} {pos : Pos} {ra rb rc : XE1} {ta tb : XTs}
theorem repr_any {d : PyData} {u : Value} {as : List Addr} {prog : Program} {w : World} {A : Around} {E : Value → Shared → Prop} {s : Shared} {Q : Value → Shared → Prop} (r : Reads s.heap u d as) (hs : d.showable = true) (hd : d.hasDict = false) (hg : A.guards = some []) (hu : A.units + (d.depth + 1) < cLine) (hsz : d.shown.length ≤ sizeLine)
    (hQ : ∀ h' t tk, (∀ b o, s.heap.get? b = some o → h'.get? b = some o) → Q (.str d.shown t) { s with heap := h', toks := tk }) : wpAny (model prog w) A (call (.builtin "repr") [u]) Q E s := by
  have hQ0 := hQ s.heap s.toks (s.toks + 1) fun _ _ e => e
  have r0 := r
  cases r with
  | none => exact PySem.P.repr_of_none hQ0
  | bool b => exact PySem.P.repr_of_bool hQ0
  | int i t => exact PySem.P.repr_of_int (of_decide_eq_true hs) hQ0
  | str x t => exact PySem.P.repr_of_str hQ0 hsz
  | list _ _ _ _ => exact repr_of_reads' r0 hs (PyData.noDict_hsm hd) hg hu (fun _ _ e => e) hQ hsz
  | tuple _ _ _ _ => exact repr_of_reads' r0 hs (PyData.noDict_hsm hd) hg hu (fun _ _ e => e) hQ hsz
  | dict _ _ _ _ _ => exact repr_of_reads' r0 hs (PyData.noDict_hsm hd) hg hu (fun _ _ e => e) hQ hsz
theorem blt_repr (hK : X.K = W.K) (hu : X.A.units + 65 < cLine) (hg : X.A.guards = some []) : CallR X (.builtin "repr") (RMn W (arg1 reprM)) := by
  intro pins s σ H xs us Q I rx h
  obtain ⟨F, A1, ms, st, rm, z, ez, q⟩ := h
  unfold arg1 at ez
  split at ez
  · rename_i m
    have rm' := rm.rep st.fh
    cases rm with
    | cons r1 rn =>
      cases rn
      obtain ⟨u, rfl, ru⟩ := rx.one
      unfold reprM at ez
      split at ez
      · rename_i hc
        cases ez
        simp only [Bool.and_eq_true, decide_eq_true_eq] at hc
        obtain ⟨as, hr⟩ := Dp.reads I (py m.toD) _ u (pl_dp hK m.toD 60 _ hc.1.1 (r1.rep st.fh)) ru
        have hd := pl_canLay m.toD 60 hc.1.1
        have hsz : (py m.toD).shown.length ≤ sizeLine := sz_line hc.2
        have fin : ∀ h' u tk, (∀ b o, s.heap.get? b = some o → h'.get? b = some o) → EP X pins σ Q (.str (py m.toD).shown u) { s with heap := h', toks := tk } := fun h' u tk k => ⟨.str _, H, I.kept (t' := tk) k, ⟨_, rfl⟩, q _ F H [] (Grow.refl st) (.fz (.str _)) (fun _ z => absurd z (by simp)) List.nodup_nil⟩
        exact repr_any hr hc.1.2 (PyData.hasDict_of_canLay _ hd.1) hg (by have := hd.2; omega) hsz fin
      · cases ez
  · cases ez
theorem w_fnv (n : Nat) {x : Str} (hm : X.mg x = some (.ref (W.fnA n))) (hg : Gl X x := by rfl) (hd : (x == ("__debug__" : Str)) = false := by decide) : PE X (.Name x pos) (XT W Wx pk (xC (.fn n))) := px_con (pe_glob hg hm (v := .ref (W.fnA n)) rfl hd) fun _ => .fn n
theorem w_iso (o : Ok X W Wx k g) {x : Str} {p pc : Pos} {sub : List Bool} (S : IsC W X.mg x sub) (hm : X.mg "isinstance" = none) (ha : PE X a (XT W Wx true ra)) (hg : Gl X "isinstance" := by rfl) (hgx : Gl X x := by rfl) (hdx : (x == ("__debug__" : Str)) = false := by decide)
    (he : starEach [a, .Name x pc] X.env = (false, eval a X.env) :: starEach [.Name x pc] X.env := by rfl) : PE X (.Call (.Name "isinstance" p) [a, .Name x pc] [] pos) (XT W Wx pk (xU (isoM sub) ra)) := by
  obtain ⟨D, h1, h2, h3⟩ := S.ex
  exact px_iso o.K hg hm hgx h1 hdx h2 h3 ha he
theorem w_att (o : Ok X W Wx k g) {f : Str} {ok : Nat → Bool} (T : AtC W f ok) (ha : PE X a (XT W Wx true ra)) (hb : attributeBase a f X.env (eval a X.env) = eval a X.env := by rfl) : PE X (.Attribute a f pos) (XT W Wx pk (xU (attM ok) ra)) := px_att o.K T.ex ha hb
theorem w_callV (o : Ok X W Wx k g) (i : Nat) {n : Nat} {T : Nat → Option (List D → R M)} (C : FnT W X.prog X.w X.K X.mg X.base g k n T) {e1 : Expr} {es : List Expr} {x : Str} {p : Pos} {rs : XEs} (ha : PA X (e1 :: es) (XTa W Wx false rs))
    (hms : ∀ (ρ : En) (Q : List M → Prop) (E : Er → Prop), (rs ρ).wp Q E → (rs ρ).wp (fun ms => ms.length = n ∧ Q ms) E) (hN : X.N[i]? = some x := by rfl) (hv : Vis X.env.scope x := by first | exact .inl rfl | exact .inr (.inl rfl) | exact .inr (.inr rfl)) (hd : (x == ("__debug__" : Str)) = false := by decide) (hcd : (x == ("__classdict__" : Str)) = false := by decide)
    (he : starEach (e1 :: es) X.env = (false, eval e1 X.env) :: starEach es X.env := by rfl) (hpl : (backTo pos (starEach es X.env)).any (·.1) = false := by rfl) : PE X (.Call (.Name x p) (e1 :: es) [] pos) (XT W Wx pk (xFV T i n rs)) :=
  px_callV C.ex o.gs o.rm o.tk hN hv hd hcd ha he hpl hms
theorem s_raP (o : Ok X W (Wk0 Ex) k g) {n : Nat} {x m : Str} {j : Nat} {p p2 pos' : Pos} (E : ErP W X.K X.mg n x) (hg : Gl X x := by rfl) (hdb : (x == ("__debug__" : Str)) = false := by decide) : PS X (.Raise (some (.Call (.Name x p) [.Constant (.str m) j p2] [] pos)) none pos') (ST W Ex (raiP n)) :=
  ss_raiP E.hf o.cm o.tk F.excBase_ValueError E.q E.gC E.kC (raises_own E.exC E.tyC) hg hdb
theorem s_raF (o : Ok X W (Wk0 Ex) k g) {n : Nat} {x f msg : Str} {e : Expr} {p pos' : Pos} (E : ErF W X.prog X.K X.mg n x f msg) (he : PE X e (XT W (Wk0 Ex) false ra)) (hg : Gl X x := by rfl) (hdb : (x == ("__debug__" : Str)) = false := by decide) (hs : starEach (e :: []) X.env = (false, eval e X.env) :: starEach [] X.env := by rfl) :
    PS X (.Raise (some (.Call (.Name x p) [e] [] pos)) none pos') (ST W Ex (raiF n ra)) := by
  obtain ⟨⟨fI, T⟩, FL, hf, fl⟩ := E
  subst fl
  exact ss_raiF hf o.cm o.tk T FL o.rm he hg hdb hs
theorem s_sc (o : Ok X W (Wk0 Ex) k g) (i : Nat) (own : List (Str × Nat)) {ow : List Nat} {y : Str} {py spos : Pos} {elt tg iter : Expr} {ifs : List Expr} {scope : Scope} {t : Tg} {ri : XIs} {rt : XTs} {re : XE1} (hN : X.N.Nodup) (hi : PI X tg iter (XI W (Wk0 Ex) true ri)) (ok : blkC X.N X.env.scope scope own = true)
    (hb : ∀ (s : Shared) (H : Hp) (C : Addr) (cl : List (Str × Addr)) (fp : List Addr), PG (X.blk s H scope (compEnvC scope cl C X.env) fp) tg (XG W t) ∧ PTs (X.blk s H scope (compEnvC scope cl C X.env) fp) ifs (XTt W W0 rt) ∧ PE (X.blk s H scope (compEnvC scope cl C X.env) fp) elt (XT W W0 false re))
    (hy : X.N[i]? = some y := by rfl) (hyl : X.env.scope.names.lookup y = some .local := by rfl) (hsw : swapsWith (.ListComp elt [⟨tg, iter, ifs, 0⟩] scope pos) (some (.Name y py)) spos.line X.env = pure true := by rfl)
    (how : own.map (·.2) = ow := by rfl) (hsub : ∀ j ∈ t.slots, j ∈ own.map (·.2) := by decide) (hs : ∀ x, foldedSetIterable iter X.env x = pure x := by intro _; rfl) : PS X (.Assign [.Name y py] (.ListComp elt [⟨tg, iter, ifs, 0⟩] scope pos) spos) (ST W Ex (sS i (xM ow t ri rt re))) := by
  subst how
  exact ss_setT (ps_setComp o.cm hN hy hyl hsw hi (blkOk_by ok) hsub (fun s H C cl fp => (hb s H C cl fp).1) (fun s H C cl fp => (hb s H C cl fp).2.1) (fun s H C cl fp => (hb s H C cl fp).2.2) hs)
/-- _law_caught stands there as its text says -/
structure CauW (W : Wd) (K : PySem.W.Frag) (mg : Str → Option Value) (T : List (Addr × Str)) (ok : Nat → Bool) : Prop where
  LW : LamW W T
  ex : ∃ (a y n bx : Str) (f B : Addr) (pg : Arguments) (sg : Scope) (dV kV doc pm cdv ct oc : Value) (an od : Option Addr) (osl : Array (Option Value)) (ql : List Pos), mg "_law_caught" = some (.ref f) ∧ PySem.W.keepIn K (.ref f) = true ∧
    K.lookup f = some ⟨oc, od, .func (PySem.W.fnOf "_law_caught" "_law_caught" pg (cauB a y n bx ql) sg dV kV doc pm an cdv ct), osl⟩ ∧ PySem.W.codeIn K cdv "_law_caught" = true ∧ L2.Binds K (PySem.W.fnOf "_law_caught" "_law_caught" pg (cauB a y n bx ql) sg dV kV doc pm an cdv ct) [a] [] ∧ FnScope [a, y, n] [a] sg ∧
    (sg.names.lookup a = some .local ∧ sg.names.lookup y = some .local ∧ sg.names.lookup n = some .local ∧ sg.names.lookup bx = some .globalImplicit) ∧ mg bx = some (.ref B) ∧ (∀ n, ok n = true → PySem.W.exmOne K (.ref (W.clsA n)) (.ref B) = some true) ∧
    (a == ("__debug__" : Str)) = false ∧ (a == ("__classdict__" : Str)) = false ∧ (y == ("__debug__" : Str)) = false ∧ (y == ("__classdict__" : Str)) = false ∧ (n == ("__debug__" : Str)) = false ∧ (n == ("__classdict__" : Str)) = false ∧ (bx == ("__debug__" : Str)) = false
/-- the def's own code has a table -/
structure TabC (T : List (Addr × Str)) (base : Heap) (mg : Str → Option Value) (code : Value) (q : Str) : Prop where
  ex : ∃ c P, LamX.TabB base mg c P ∧ code = .ref c ∧ (P, q) ∈ T ∧ ∀ p ∈ T, p.1 = P → p.2 = q
def xCau (ok : Nat → Bool) (re : XE1) : XE1 := fun ρ => cauR ok (re ρ)
theorem w_cau {T : List (Addr × Str)} {ok : Nat → Bool} (o : Ok X W Wx (k + 2) g) (C : CauW W X.K X.mg T ok) (TC : TabC T X.base X.mg X.env.code (X.env.qual ++ "<lambda>")) {params : Arguments} {body : Expr} {scope : Scope} {re : XE1} {p lpos : Pos}
    (hbody : ∀ (A : Around) (outer : List Env) (s : Shared) (H : Hp) (E : XK) (f c' : Addr), Ok (LamX.lamCx X A outer s H E scope f c') W (Wk0 E) k false → PE (LamX.lamCx X A outer s H E scope f c') body (XT W (Wk0 E) true re))
    (hg : Gl X "_law_caught" := by rfl) (L : LamX.lamSB X.env.scope scope = true := by rfl) (hdef : defaultsOf params X.env = ([], []) := by rfl)
    (hbind : ∀ (q : Str) (cl : List (Str × Addr)) (pm cv ctv : Value), bindArgs (PySem.W.kla_fn "<lambda>" q params body scope cl pm cv ctv) ⟨[], []⟩ = pure [] := by intros; rfl) : PE X (.Call (.Name "_law_caught" p) [.Lambda params body scope lpos] [] pos) (XT W Wx pk (xCau ok re)) := by
  obtain ⟨LW, a, y, n, bx, f, B, pg, sg, dV, kV, doc, pm, cdv, ct, oc, an, od, osl, ql, h1, h2, h3, h4, h5, h6, ⟨h7, h8, h9, h10⟩, h11, h12, d1, d2, d3, d4, d5, d6, d7⟩ := C
  obtain ⟨c, Pt, TB, hc, hm, hu⟩ := TC
  exact px_cau (k := k) LW hg h1 h2 h3 h4 h5 h6 h7 h8 h9 h10 h11 h12 TB hc hm hu o.rm (LamX.lamS_by L) hdef hbind (fun A outer s H E f c' hr => hbody A outer s H E f c' ⟨o.K, rfl, hr, takes_of rfl rfl rfl rfl, fun z => nomatch z⟩) (by decide) d1 d2 d3 d4 d5 d6 d7
end
end Bx
/-! Bx22: a def of the text, from what the top has written -/
namespace Bx
open PySem PySem.Spec L2
theorem Ok.down {X : Cx} {W : Wd} {Wx : WX} {k : Nat} {g : Bool} (o : Ok X W Wx (k + 2) g) : Ok X W Wx k g := ⟨o.K, o.cm, o.rm.mono (by omega), o.tk, o.gs⟩
/-- the def st stands at f under the name x, its code is cdv -/
structure LkF (K : PySem.W.Frag) (mg : Str → Option Value) (x : Str) (st : Stmt) (f : Addr) (cdv : Value) : Prop where
  lk : ∃ (oc kV doc pm ct : Value) (od an : Option Addr) (osl : Array (Option Value)), K.lookup f = some ⟨oc, od, .func (PySem.W.fnOf x x (defArgs st) (defBody st) (defScope st) .none kV doc pm an cdv ct), osl⟩
  cd : PySem.W.codeIn K cdv x = true
  gl : mg x = some (.ref f)
  kp : PySem.W.keepIn K (.ref f) = true
theorem mk_fn {W : Wd} {P : Program} {w : World} {K : PySem.W.Frag} {mg : Str → Option Value} {base : Heap} {g : Bool} {x : Str} {st : Stmt} {f : Addr} {cdv : Value} {N ps : List Str} {k : Nat} {r : XS} {kws : List (List Str × List Nat)} (hK : K = W.K) (L : LkF K mg x st f cdv) (S : FnScope N ps (defScope st))
    (hb : ∀ (kV doc pm ct : Value) (an : Option Addr) (us : List Value), us.length = ps.length → bindArgs (PySem.W.fnOf x x (defArgs st) (defBody st) (defScope st) .none kV doc pm an cdv ct) ⟨us, []⟩ = pure (ps.zip us))
    (hk : ∀ q ∈ kws, q.2.length = ps.length ∧ ∀ (kV doc pm ct : Value) (an : Option Addr) (ws : List Value), ws.length = q.1.length → bindArgs (PySem.W.fnOf x x (defArgs st) (defBody st) (defScope st) .none kV doc pm an cdv ct) ⟨[], q.1.zip ws⟩ = pure (ps.zip (gP q.2 [] ws)))
    (hbody : ∀ (E : XK) (A : Around) (outer : List Env) (s : Shared) (H : Hp), Ok (cxOf (L2.CX P w) P w K mg base N x (defScope st) f cdv A outer s H E) W (Wk0 E) k g →
      PSs (cxOf (L2.CX P w) P w K mg base N x (defScope st) f cdv A outer s H E) (defBody st) (ST W E r)) : FnC W P w K mg base g (k + 1) x f ps kws (fnR N.length r) := by
  obtain ⟨⟨oc, kV, doc, pm, ct, od, an, osl, lk⟩, cd, gl, kp⟩ := L
  exact ⟨⟨_, k + 1, Nat.le_refl _, fn_ok hK lk cd S hbody, .all fun us hl => hb kV doc pm ct an us hl, fun q hq => ⟨(hk q hq).1, fun s ws _ hl => .of_eq ((hk q hq).2 kV doc pm ct an ws hl)⟩⟩, gl, kp⟩
theorem FnC.fnT {W : Wd} {P : Program} {w : World} {K : PySem.W.Frag} {mg : Str → Option Value} {base : Heap} {g : Bool} {k j : Nat} {x : Str} {ps : List Str} {kws : List (List Str × List Nat)} {φ : List D → R M} {a : Addr} (C : FnC W P w K mg base g k x a ps kws φ) (h : a = W.fnA j) :
    ∃ fd q ps', q ≤ k ∧ ps'.length = ps.length ∧ FnG g P w K mg base q (W.fnA j) fd ps' (FSp W ps.length φ) ∧ Binds K fd ps' [] ∧ PySem.W.keepIn K (.ref (W.fnA j)) = true := by
  subst h
  obtain ⟨⟨fd, i, hi, r, b, _⟩, _, kp⟩ := C
  exact ⟨fd, i, ps, hi, rfl, r, b, kp⟩
end Bx
/-! Bx23: the script walked; dicts written and read -/
namespace Bx
open PySem PySem.Spec L2
def iScr (a : XE1) : XIs := fun ρ => do
  let m ← a ρ
  match m with
  | .fz (.scr ns) => .ret (ns.map .int)
  | _ => .bad
/-- the key of data -/
def keyM : D → Option Key
  | .int i => some (.inl i)
  | .str x => some (.inr x)
  | _ => none
/-- found under a key (a number or a text) -/
def getK (k : Key) : List (D × D) → Option D
  | [] => none
  | (d, v) :: r => if keyM d = some k then some v else getK k r
def dctM : M → Option (List (D × D))
  | .fz (.dct l) => some l
  | _ => none
/-- d[k], d data -/
def dgetM (m k : M) : R M := match dctM m, keyM k.toD with
  | some l, some k => match getK k l with
    | some v => .ret (.fz v)
    | none => .bad
  | _, _ => .bad
section
variable {X : Cx} {W : Wd} {Wx : WX} {Ex : XK} {pk g : Bool} {k : Nat} {a b c : Expr} {pos : Pos} {ra rb rc : XE1} {F H F' H' F1 H1 : Hp} {A A1 : List Addr} {ρ : En} {σ : St}
theorem i_scr (o : Ok X W Wx k g) {tg : Expr} (ha : PE X a (XT W Wx pk ra)) : PI X tg a (XI W Wx pk (iScr ra)) := by
  refine pi_imp (pi_seq ha) fun σ H Q h => ?_
  obtain ⟨F, A, ρ, G, h⟩ := h
  refine XT.use G h fun m v F1 H1 A1 g1 r1 o1 h1 => ?_
  split at h1
  · rename_i ns
    cases r1 with
    | fz r1 =>
      cases r1 with
      | scr hs =>
        rw [o.K]
        have hH := sqL_mono g1.st.fh hs
        have hr : RepL W F1 (ns.map V.int) (ns.map D.int) := RepL.ints ns
        exact ⟨_, rfl, .inl ⟨⟨_, hH⟩, h1 F1 H1 [] _ g1 ⟨(ns.map V.int).length, _, _, walk_list, by simp, fun F2 H2 ff st _ => sqL_mono st.fh (sqL_mono ff hs), yat_rep hr⟩ .nil .nil⟩⟩
  · exact h1.elim
theorem getK_val : ∀ {kvs : List (Key × V)} {ds : List (D × D)} {q : Key} {d : D}, RepK W F kvs ds → getK q ds = some d → ∃ v, valV kvs q = some v ∧ Rep W F v d
  | _, _, q, d, .nil, h => by cases h
  | _, _, q, d, .cons (k := kk) (v := v) (vs := vs) (d := d0) a b, h => by
    have hk : keyM (keyD kk) = some kk := by cases kk <;> rfl
    unfold getK at h
    rw [hk] at h
    by_cases e : kk = q
    · rw [if_pos (by rw [e])] at h
      cases h
      exact ⟨v, valV_pos e, a⟩
    · rw [if_neg (by simpa using e)] at h
      obtain ⟨w, h1, h2⟩ := getK_val b h
      exact ⟨w, (valV_neg e).trans h1, h2⟩
theorem dgetM_ret (m n : M) : isRet (dgetM m n) = true := by
  unfold dgetM
  repeat' split
  all_goals rfl
theorem keyM_rep {d : D} {v : V} {q : Key} (r : Rep W F v d) (h : keyM d = some q) : v = kV q := by
  cases r <;> first | (cases h; done) | (cases h; rfl)
theorem getK_keyT : ∀ {kvs : List (List Key × V)} {ds : List (D × D)} {q : Key}, RepT W F kvs ds → getK q ds = none
  | _, _, _, .nil => rfl
  | _, _, q, .cons (k := kk) a b => by
    unfold getK
    have : keyM (keysD kk) = none := rfl
    rw [this, if_neg (by simp)]
    exact getK_keyT b
/-- d[k], d data with numbers or texts as keys -/
theorem w_dg (o : Ok X W Wx k g) (ha : PE X a (XT W Wx true ra)) (hb : PE X b (XT W Wx true rb)) (hs : NoSl b := by intro _ _; rfl) : PE X (.Subscript a b pos) (XT W Wx pk (xO dgetM ra rb)) := by
  refine pe_imp (pe_dget (by have := o.u; omega) ha hb hs) fun σ H Q h => ?_
  obtain ⟨F, A, ρ, G, h⟩ := h
  refine XT.use G h fun m v F1 H1 A1 g1 r1 o1 h1 => ?_
  refine XT.use (G.grow g1) h1 fun m2 v2 F2 H2 A2 g2 r2 o2 h2 => ?_
  obtain ⟨z, ez, q⟩ := isRet_wp (dgetM_ret m m2) h2
  unfold dgetM at ez
  split at ez
  · rename_i l kk e1 e2
    split at ez
    · rename_i d e3
      cases ez
      have hv2 : v2 = kV kk := keyM_rep (r2.rep g2.st.fh) e2
      subst hv2
      unfold dctM at e1
      split at e1
      · cases e1
        have r1' := r1.grow g2
        cases r1' with
        | fz r =>
          cases r with
          | dctK hF hk =>
            obtain ⟨w, hw, rw'⟩ := getK_val hk e3
            exact ⟨_, w, rfl, by rw [← hw]; exact DGet.k (g2.st.fh _ _ hF), q w F2 H2 [] (g1.trans g2) (.fz rw') .nil⟩
          | dctT hF hk => rw [getK_keyT hk] at e3; cases e3
      · cases e1
    · cases ez
  · cases ez
/-! ### a dict written, its keys texts -/
def xD (ks : List Str) (re : XEs) : XE1 := fun ρ => do
  let ms ← re ρ
  if decide (ms.length = ks.length) && decide (ks.length ≤ 15) && decide ks.Nodup then .ret (.od ((ks.map D.str).zip ms)) else .bad
/-- the pairs, keys written -/
structure Pd (X : Cx) (W : Wd) (Wx : WX) (pos : Pos) (ks : List Str) (keys : List (Option Expr)) (vs : List Expr) (re : XEs) : Prop where
  len : keys.length = ks.length ∧ vs.length = ks.length ∧ keys.all (·.isSome) = true
  ex : ∃ trs, PPs X pos keys vs trs ∧ ∀ σ H Q, XTa W Wx false re σ H (fun zs H1 => Q (((ks.map V.str).zip zs)) H1) → tPairs trs σ H Q
theorem d_n : Pd X W Wx pos [] [] [] eN := ⟨⟨rfl, rfl, rfl⟩, [], pps_nil, fun σ H Q h => by
  obtain ⟨F, A, ρ, G, h⟩ := h
  exact h [] F H [] (Grow.refl G.st) .nil .nil⟩
theorem d_c {ks : List Str} {keys : List (Option Expr)} {vs : List Expr} {re : XEs} {y : Str} {j : Nat} {p : Pos} (ha : PE X a (XT W Wx false ra)) (hr : Pd X W Wx pos ks keys vs re) : Pd X W Wx pos (y :: ks) (some (.Constant (.str y) j p) :: keys) (a :: vs) (eC ra re) := by
  obtain ⟨⟨l1, l2, l3⟩, trs, h1, h2⟩ := hr
  refine ⟨⟨by simp [l1], by simp [l2], by simp [l3]⟩, _, pps_cons pe_str ha h1, fun σ H Q h => ?_⟩
  obtain ⟨F, A, ρ, G, h⟩ := h
  refine XT.use G h fun m v F1 H1 A1 g1 r1 o1 h1 => h2 _ _ _ ?_
  refine XTa.use (G.grow g1) h1 fun m2 v2 F2 H2 A2 g2 r2 o2 h2 => ?_
  exact h2 _ F2 H2 _ (g1.trans g2) (.cons (r1.grow g2) r2) (own_app (v := v) (m := m) g1 r1.owns o1 o2)
theorem merge_new : ∀ (kvs acc : List (Key × V)), (∀ p ∈ kvs, valV acc p.1 = none) → (kvs.map (·.1)).Nodup → mergeK acc kvs = acc ++ kvs
  | [], acc, _, _ => (List.append_nil acc).symm
  | p :: r, acc, h, nd => by
    have nd' : p.1 ∉ r.map (·.1) ∧ (r.map (·.1)).Nodup := by simpa using nd
    have e : mergeK acc (p :: r) = mergeK (acc ++ [p]) r := by
      show mergeK (putK acc p.1 p.2) r = _
      rw [putK_new p.2 (h p (by simp))]
    rw [e, merge_new r (acc ++ [p]) (fun q hq => ?_) nd'.2, List.append_assoc]
    · rfl
    · have hne : ¬ p.1 = q.1 := fun z => nd'.1 (by rw [z]; exact List.mem_map.mpr ⟨q, hq, rfl⟩)
      have h1 := h q (by simp [hq])
      unfold valV at h1 ⊢
      rw [List.find?_append]
      cases e : acc.find? (fun kv => decide (kv.1 = q.1)) with
      | some x => rw [e] at h1; cases h1
      | none => simp [hne]
theorem repMK_of : ∀ {ks : List Str} {vs : List V} {ms : List M} {B : List Addr}, RepMs W F H B vs ms → RepMK W F H (if ms.length = ks.length then B else B) ((ks.map fun y => (Sum.inr y : Key)).zip vs) ((ks.map D.str).zip ms) ∨ ms.length ≠ ks.length
  | [], _, _, _, .nil => .inl (by simpa using RepMK.nil)
  | [], _, _, _, .cons _ _ => .inr (by simp)
  | _ :: _, _, _, _, .nil => .inr (by simp)
  | y :: ks, _, _, _, .cons (m := m) (ms := ms) a b => by
    rcases repMK_of (ks := ks) b with h | h
    · left
      simp only [ite_self] at h ⊢
      exact .cons (k := .inr y) a h
    · right
      simpa using h
theorem zip_kV : ∀ (ks : List Str) (zs : List V), (ks.map V.str).zip zs = ((ks.map fun y => (Sum.inr y : Key)).zip zs).map fun kv => (kV kv.1, kv.2)
  | [], _ => rfl
  | _ :: _, [] => rfl
  | y :: ks, z :: zs => by
    exact congrArg ((V.str y, z) :: ·) (zip_kV ks zs)
theorem nodup_inr : ∀ {ks : List Str}, ks.Nodup → (ks.map fun y => (Sum.inr y : Key)).Nodup
  | [], _ => List.nodup_nil
  | y :: ks, h => by
    have h' := List.nodup_cons.mp h
    refine List.nodup_cons.mpr ⟨fun z => ?_, nodup_inr h'.2⟩
    obtain ⟨w, hw, e⟩ := List.mem_map.mp z
    cases e
    exact h'.1 hw
theorem w_dsp (o : Ok X W Wx k g) {ks : List Str} {keys : List (Option Expr)} {vs : List Expr} {re : XEs} (hp : Pd X W Wx pos ks keys vs re) (hk : keys ≠ [] := by intro z; cases z) (h15 : keys.length ≤ 15 := by decide) : PE X (.Dict keys vs pos) (XT W Wx pk (xD ks re)) := by
  obtain ⟨⟨l1, l2, l3⟩, trs, h1, h2⟩ := hp
  refine pe_imp (pe_disp h1 l3 (by rw [l1, l2]) hk h15) fun σ H Q h => ?_
  obtain ⟨F, A, ρ, G, h⟩ := h
  intro p hp
  have g0 := Grow.own G.st (.dK []) hp
  have ng := G.st.nogh hp
  have hF := G.st.fnone hp
  refine h2 _ _ _ ⟨F, A, ρ, G.grow g0, R.wp_mono (fun ms hm zs F1 H1 A1 g1 r1 o1 => ?_) (fun e q => q.grow g0) (R.wp_bind.mp h)⟩
  have hH1 : H1 p = some (.dK []) := g1.keep p _ upd_same ng
  have hF1 : F1 p = none := g1.nf p _ upd_same hF
  refine ⟨hH1, (ks.map fun y => (Sum.inr y : Key)).zip zs, ?_, ?_, ?_⟩
  · exact zip_kV ks zs
  · have : ((ks.map fun y => (Sum.inr y : Key)).zip zs).length ≤ ks.length := by simp; omega
    omega
  · split at hm
    · rename_i hc
      simp only [Bool.and_eq_true, decide_eq_true_eq] at hc
      have hl : zs.length = ks.length := r1.length.trans hc.1.1
      have nd : (((ks.map fun y => (Sum.inr y : Key)).zip zs).map (·.1)).Nodup := by
        rw [List.map_fst_zip (by simp [hl])]
        exact nodup_inr hc.2
      rw [merge_new _ [] (fun _ _ => rfl) nd, List.nil_append]
      have nA : ∀ x ∈ A1, x ≠ p := fun x hx z => by
        have := o1.fresh x hx
        rw [z, upd_same] at this; cases this
      have rk := (repMK_of (ks := ks) r1).resolve_right (by simp [hc.1.1])
      simp only [ite_self] at rk
      have fr : ∀ x ∈ p :: A1, H x = none := fun x hx => by
        rcases List.mem_cons.mp hx with z | z
        · rw [z]; exact hp
        · have := o1.fresh x z
          rw [upd_ne (nA x z)] at this; exact this
      exact hm (.ref p) F1 _ (p :: A1) (grow_upd (g0.trans g1) hp hF1 ng _) (.odK upd_same hF1 ng (rk.keep (keeps_upd nA _))) (Own.of_new fr (List.nodup_cons.mpr ⟨fun z => nA p z rfl, o1.2 rfl⟩))
    · exact hm.elim
end
end Bx
/-! Bx24: slots become data ahead of a statement; a list handed back -/
namespace Bx
open PySem PySem.Spec L2
def frzEs : List Nat → En → En
  | [], ρ => ρ
  | i :: zs, ρ => frzEs zs (frzE (some i) ρ)
def sZ (zs : List Nat) (r : XS) : XS := fun ρ => r (frzEs zs ρ)
/-- a name handed back, with what it owns -/
def sRV (i : Nat) : XS := fun ρ => match slotM ρ i with
  | some m => .ret (.rt m, ρ)
  | none => .bad
def whZ (zs : List Nat) (c : XTs) (f : XS) : Nat → XS
  | 0, _ => .bad
  | n + 1, ρ => do
    let b ← c (frzEs zs ρ)
    if b then do
      let p ← f (frzEs zs ρ)
      match p.1 with
      | .nx => whZ zs c f n p.2
      | .ct => whZ zs c f n p.2
      | .br => .ret (.nx, p.2)
      | .rt m => .ret (.rt m, p.2)
    else .ret (.nx, frzEs zs ρ)
section
variable {X : Cx} {W : Wd} {Ex : XK} {F H F' H' F1 H1 F2 H2 : Hp} {A A1 A2 A' : List Addr} {ρ : En} {σ : St}
theorem Good.frzSs : ∀ {zs : List Nat} {F : Hp} {A : List Addr} {ρ : En}, Good W F H A ρ σ → ∃ F' A', Good W F' H A' (frzEs zs ρ) σ ∧ Step W F H A F' H A'
  | [], F, A, ρ, G => ⟨F, A, G, Step.refl⟩
  | i :: zs, F, A, ρ, G => by
    obtain ⟨F1, A1, G1, s1⟩ := G.frzS (some i)
    obtain ⟨F2, A2, G2, s2⟩ := Good.frzSs (zs := zs) G1
    exact ⟨F2, A2, G2, s1.trans G1.st s2 G2.st⟩
theorem s_z (zs : List Nat) {st : Stmt} {r : XS} (h : PS X st (ST W Ex r)) : PS X st (ST W Ex (sZ zs r)) := by
  refine ps_imp h fun D σ H q => ?_
  obtain ⟨F, A, ρ, G, q⟩ := q
  obtain ⟨F1, A1, G1, s1⟩ := G.frzSs (zs := zs)
  exact ⟨F1, A1, _, G1, R.wp_mono (fun p hp F' H' A' st s' => hp F' H' A' (s1.trans G1.st st s') s') (fun _ z => z.step s1 G1.st) q⟩
theorem s_rv (i : Nat) {x : Str} {p pos : Pos} (hN : X.N[i]? = some x := by rfl) (hv : Vis X.env.scope x := by first | exact .inl rfl | exact .inr (.inl rfl) | exact .inr (.inr rfl)) (hd : (x == ("__debug__" : Str)) = false := by decide) (hcd : (x == ("__classdict__" : Str)) = false := by decide) :
    PS X (.Return (some (.Name x p)) pos) (ST W Ex (sRV i)) := by
  refine ps_imp (ps_ret (pe_var hN hv hd hcd)) fun D σ H h => ?_
  obtain ⟨F, A, ρ, G, h⟩ := h
  unfold sRV at h
  split at h
  · rename_i m em
    have em' : ρ[i]? = some (some m) := by
      unfold slotM at em
      split at em
      · cases em; assumption
      · cases em
    obtain ⟨L1, Lm, L2', eA, h1, _, _, _⟩ := G.sl.at (List.getElem?_eq_some_iff.mp em').1
    obtain ⟨v, ev, rv⟩ := h1 m em'
    subst eA
    have nd := G.nd
    rw [List.nodup_append] at nd
    obtain ⟨_, n2, _⟩ := nd
    rw [List.nodup_append] at n2
    exact ⟨v, ev, h F H Lm ⟨Same.refl F, fun _ _ e _ _ => e, fun a ha => .inl (by simp [ha]), fun _ _ _ n _ => n⟩ G.st v rv n2.1⟩
  · exact h.elim
theorem s_wz {c : Expr} {body : List Stmt} {pos : Pos} {rc : XTs} {rb : XS} (fuel : Nat) (zs : List Nat) (hp : PassesOwn (model X.prog X.w) X.A X.env X.xe) (hc : PT X c (XTt W (Wk0 Ex) rc)) (hb : PSs X body (ST W Ex rb)) :
    PS X (.While c body [] pos) (ST W Ex (whZ zs rc rb fuel)) := by
  refine ps_imp (ps_while hp hc hb) fun D σ H h => ?_
  obtain ⟨F, A, ρ, G, h⟩ := h
  refine ⟨fun n σ1 H1 => ∃ F1 A1 ρ1, Step W F H A F1 H1 A1 ∧ Good W F1 H1 A1 ρ1 σ1 ∧ (whZ zs rc rb n ρ1).wp (SPost W F H A D) (SErr W F H A Ex), ⟨fuel, F, A, ρ, Step.refl, G, h⟩, ?_⟩
  rintro n σ1 H1 ⟨F0, A0, ρ1, st0, G0, hw⟩
  cases n with
  | zero => exact hw.elim
  | succ n =>
    obtain ⟨F1, A1, G1, sz1⟩ := G0.frzSs (zs := zs)
    have st1 := st0.trans G0.st sz1 G1.st
    have hw := R.wp_bind.mp (show R.wp _ _ (rc (frzEs zs ρ1) >>= _) from hw)
    refine ⟨F1, A1, frzEs zs ρ1, G1, R.wp_mono (fun b hb2 F2 H2 g2 => ?_) (fun _ q => (q.step st1 G1.st).ew) hw⟩
    have st2 : Step W F H A F2 H2 A1 := st1.trans G1.st (g2.step fun _ q => .inl q) g2.st
    have G2 := G1.grow g2
    cases b with
    | false =>
      dsimp only
      rw [if_neg Bool.false_ne_true] at hb2 ⊢
      exact hb2 F2 H2 A1 st2 g2.st σ1 G2
    | true =>
      dsimp only
      rw [if_pos rfl] at hb2 ⊢
      have hb3 := R.wp_bind.mp hb2
      refine ⟨fun σ3 H3 => ∃ F3 A3 ρ3, Step W F H A F3 H3 A3 ∧ Good W F3 H3 A3 ρ3 σ3 ∧ (whZ zs rc rb n ρ3).wp (SPost W F H A D) (SErr W F H A Ex), fun σ' H' k => ⟨n, Nat.lt_succ_self n, k⟩, F2, A1, frzEs zs ρ1, G2, R.wp_mono (fun q hq F5 H5 A5 st5 s5 => ?_) (fun _ q => q.step st2 g2.st) hb3⟩
      obtain ⟨fl, ρ5⟩ := q
      have st6 := st2.trans g2.st st5 s5
      cases fl with
      | nx => exact fun σ5 G5 => ⟨F5, A5, ρ5, st6, G5, hq⟩
      | ct => exact fun σ5 G5 => ⟨F5, A5, ρ5, st6, G5, hq⟩
      | br => exact fun σ5 G5 => hq F5 H5 A5 st6 s5 σ5 G5
      | rt m => exact hq F5 H5 A5 st6 s5
end
end Bx
/-! Bx25: what must hold before a word, so that Q holds after it (plain law side) -/
namespace Bx
open PySem L2
/-- wp, sealed: so that no one looks into it by chance -/
structure Wp {α : Type} (r : R α) (Q : α → Prop) (E : Er → Prop) : Prop where
  ex : r.wp Q E
theorem Wp.bind {α β : Type} {r : R α} {f : α → R β} {Q : β → Prop} {E : Er → Prop} (h : Wp r (fun a => Wp (f a) Q E) E) : Wp (r >>= f) Q E :=
  ⟨R.wp_bind.mpr (R.wp_mono (fun _ h => h.ex) (fun _ e => e) h.ex)⟩
theorem Wp.mono {α : Type} {r : R α} {Q Q' : α → Prop} {E E' : Er → Prop} (hQ : ∀ a, Q a → Q' a) (hE : ∀ e, E e → E' e) (h : Wp r Q E) : Wp r Q' E' := ⟨R.wp_mono hQ hE h.ex⟩
theorem Wp.imp {α : Type} {r : R α} {Q Q' : α → Prop} {E : Er → Prop} (h : Wp r Q E) (hQ : ∀ a, Q a → Q' a) : Wp r Q' E := h.mono hQ fun _ e => e
theorem Wp.ret {α : Type} {a : α} {Q : α → Prop} {E : Er → Prop} (h : Q a) : Wp (.ret a) Q E := ⟨h⟩
theorem Wp.err {α : Type} {e : Er} {Q : α → Prop} {E : Er → Prop} (h : E e) : Wp (.err e : R α) Q E := ⟨h⟩
theorem Wp.take {α : Type} {n : Int} {k : Int → R α} {Q : α → Prop} {E : Er → Prop} (h0 : 0 < n) (h1 : n < 1073741824) (h : ∀ i, 0 ≤ i → i < n → Wp (k i) Q E) : Wp (.take n k) Q E := ⟨⟨h0, h1⟩, fun i a b => (h i a b).ex⟩
theorem Wp.eq {α : Type} {r r' : R α} {Q : α → Prop} {E : Er → Prop} (e : r = r') (h : Wp r' Q E) : Wp r Q E := by rw [e]; exact h
theorem w_ret {α : Type} {r : R α} {a : α} {Q : α → Prop} {E : Er → Prop} (e : r = .ret a) (h : Q a) : Wp r Q E := .eq e (.ret h)
theorem thenE_nx {ρ : En} {k : En → R (Fl × En)} : thenE (.nx, ρ) k = k ρ := rfl
section
variable {E : Er → Prop} {ρ : En}
theorem wsC {a b : XS} {Q : Fl × En → Prop} (h : Wp (a ρ) (fun p => Wp (thenE p b) Q E) E) : Wp (sC a b ρ) Q E := .bind h
theorem wsN {Q : Fl × En → Prop} (h : Q (.nx, ρ)) : Wp (sN ρ) Q E := .ret h
theorem wsS {i : Nat} {a : XE1} {Q : Fl × En → Prop} (h : Wp (a ρ) (fun m => Wp (setE i m ρ) Q E) E) : Wp (sS i a ρ) Q E := .bind h
theorem wsE {a : XE1} {Q : Fl × En → Prop} (h : Wp (a ρ) (fun _ => Q (.nx, ρ)) E) : Wp (sE a ρ) Q E := .bind (h.imp fun _ => .ret)
theorem wsR {a : XE1} {Q : Fl × En → Prop} (h : Wp (a ρ) (fun m => Q (.rt m, ρ)) E) : Wp (sR a ρ) Q E := .bind (h.imp fun _ => .ret)
theorem wsI {c : XTs} {a b : XS} {Q : Fl × En → Prop} (h : Wp (c ρ) (fun t => Wp ((if t then a ρ else b ρ) : R (Fl × En)) Q E) E) : Wp (sI c a b ρ) Q E := .bind h
theorem wsZ {zs : List Nat} {r : XS} {Q : Fl × En → Prop} (h : Wp (r (frzEs zs ρ)) Q E) : Wp (sZ zs r ρ) Q E := h
theorem wtV {a : XE1} {Q : Bool → Prop} (h : Wp (a ρ) (fun m => Wp (truM m) Q E) E) : Wp (tV a ρ) Q E := .bind h
theorem wtNot {a : XTs} {Q : Bool → Prop} (h : Wp (a ρ) (fun t => Q (!t)) E) : Wp (tNot a ρ) Q E := .bind (h.imp fun _ => .ret)
theorem wtOr {a b : XTs} {Q : Bool → Prop} (h : Wp (a ρ) (fun t => Wp ((if t then R.ret true else b ρ) : R Bool) Q E) E) : Wp (tOr a b ρ) Q E := .bind h
theorem wtAnd {a b : XTs} {Q : Bool → Prop} (h : Wp (a ρ) (fun t => Wp ((if t then b ρ else R.ret false) : R Bool) Q E) E) : Wp (tAnd a b ρ) Q E := .bind h
theorem wxO {f : M → M → R M} {a b : XE1} {Q : M → Prop} (h : Wp (a ρ) (fun x => Wp (b ρ) (fun y => Wp (f x y) Q E) E) E) : Wp (xO f a b ρ) Q E := .bind (h.imp fun _ => .bind)
theorem wxU {f : M → R M} {a : XE1} {Q : M → Prop} (h : Wp (a ρ) (fun x => Wp (f x) Q E) E) : Wp (xU f a ρ) Q E := .bind h
theorem wxF {φ : List D → R M} {n : Nat} {e : XEs} {Q : M → Prop} (h : Wp (e ρ) (fun ms => Wp (φ ((List.range n).map fun k => (toDs ms).getD k .non)) Q E) E) : Wp (xF φ n e ρ) Q E := .bind h
/-- a call, its arguments told -/
theorem wxFr {φ : List D → R M} {n : Nat} {e : XEs} {Q : M → Prop} (ds : List D) {ms : List M} (h1 : e ρ = .ret ms) (h2 : (List.range n).map (fun k => (toDs ms).getD k .non) = ds) (h : Wp (φ ds) Q E) : Wp (xF φ n e ρ) Q E := .bind (.eq h1 (.ret (by subst h2; exact h)))
theorem wxK {φ : List D → R M} {pm : List Nat} {e : XEs} {Q : M → Prop} (h : Wp (e ρ) (fun ms => Wp (φ (pm.map fun k => (toDs ms).getD k .non)) Q E) E) : Wp (xK φ pm e ρ) Q E := .bind h
theorem wxB {f : List M → R M} {e : XEs} {Q : M → Prop} (h : Wp (e ρ) (fun ms => Wp (f ms) Q E) E) : Wp (xB f e ρ) Q E := .bind h
theorem weC {a : XE1} {r : XEs} {Q : List M → Prop} (h : Wp (a ρ) (fun m => Wp (r ρ) (fun ms => Q (m :: ms)) E) E) : Wp (eC a r ρ) Q E := .bind (h.imp fun _ h => .bind (h.imp fun _ => .ret))
theorem wxL {e : XEs} {Q : M → Prop} (h : Wp (e ρ) (fun ms => Wp (lstR ms) Q E) E) : Wp (xL e ρ) Q E := .bind h
theorem weN {Q : List M → Prop} (h : Q []) : Wp (eN ρ) Q E := .ret h
theorem wxI {pk : Bool} {a b : XE1} {Q : M → Prop} (h : Wp (a ρ) (fun x => Wp (b ρ) (fun y => Wp (idxM x y) (fun m => Wp (lookM pk m) Q E) E) E) E) : Wp (xI pk a b ρ) Q E := .bind (h.imp fun _ h => .bind (h.imp fun _ => .bind))
/-- a name set, the slots told anew -/
theorem wSet {zs : List Nat} {i : Nat} {a : XE1} {b : XS} {ρ' : En} {Q : Fl × En → Prop} (e : frzEs zs ρ = ρ') (h : Wp (a ρ') (fun m => ∃ ρ'', (decide (i < ρ'.length) = true) ∧ ρ'.set i (some m) = ρ'' ∧ Wp (b ρ'') Q E) E) : Wp (sC (sZ zs (sS i a)) b ρ) Q E := by
  subst e
  refine .bind (.bind (h.imp fun m hm => ?_))
  obtain ⟨ρ'', h1, rfl, h2⟩ := hm
  refine .eq (if_pos h1) (.ret h2)
theorem wSet0 {i : Nat} {a : XE1} {b : XS} {Q : Fl × En → Prop} (h : Wp (a ρ) (fun m => ∃ ρ'', (decide (i < ρ.length) = true) ∧ ρ.set i (some m) = ρ'' ∧ Wp (b ρ'') Q E) E) : Wp (sC (sS i a) b ρ) Q E :=
  wSet (zs := []) rfl h
/-- an if that is not taken, and does nothing else -/
theorem wNo {zs : List Nat} {c : XTs} {a b : XS} {ρ' : En} {Q : Fl × En → Prop} (e : frzEs zs ρ = ρ') (h : Wp (c ρ') (fun t => t = false ∧ Wp (b ρ') Q E) E) : Wp (sC (sZ zs (sI c a sN)) b ρ) Q E := by
  subst e
  refine .bind (.bind (h.imp fun t ht => ?_))
  obtain ⟨rfl, h2⟩ := ht
  exact .ret h2
theorem wNo0 {c : XTs} {a b : XS} {Q : Fl × En → Prop} (h : Wp (c ρ) (fun t => t = false ∧ Wp (b ρ) Q E) E) : Wp (sC (sI c a sN) b ρ) Q E := wNo (zs := []) rfl h
/-- a statement that changes no slot that we know of -/
theorem wThen {a b : XS} {Q : Fl × En → Prop} (h : Wp (a ρ) (fun p => p.1 = .nx ∧ Wp (b p.2) Q E) E) : Wp (sC a b ρ) Q E := by
  refine .bind (h.imp fun p hp => ?_)
  obtain ⟨fl, ρ'⟩ := p
  obtain ⟨z, h2⟩ := hp
  have z : fl = .nx := z
  subst z
  exact h2
theorem wEnd {a b : XS} {Q : Fl × En → Prop} (h : Wp (a ρ) (fun p => (∃ m, p.1 = .rt m) ∧ Q p) E) : Wp (sC a b ρ) Q E := by
  refine .bind (h.imp fun p hp => ?_)
  obtain ⟨fl, ρ'⟩ := p
  obtain ⟨⟨m, z⟩, h2⟩ := hp
  have z : fl = .rt m := z
  subst z
  exact .ret h2
theorem forL_inv {f : D → En → R (Fl × En)} {P : En → Prop} {Q : Fl × En → Prop} : ∀ (xs : List D) (ρ : En), P ρ → (∀ x ∈ xs, ∀ ρ, P ρ → Wp (f x ρ) (fun p => (p.1 = .nx ∨ p.1 = .ct) ∧ P p.2) E) → (∀ ρ, P ρ → Q (.nx, ρ)) → Wp (forL f xs ρ) Q E
  | [], ρ, h, _, hq => .ret (hq ρ h)
  | x :: xs, ρ, h, hf, hq => by
    unfold forL
    refine .bind ((hf x (by simp) ρ h).imp fun p hp => ?_)
    obtain ⟨fl, ρ'⟩ := p
    rcases hp with ⟨z | z, hP⟩ <;> (have z : fl = _ := z; subst z; exact forL_inv xs ρ' hP (fun y hy => hf y (by simp [hy])) hq)
theorem wsF {z : Option Nat} {t : Tg} {it : XIs} {b : XS} {xs : List D} {ρ' : En} {Q : Fl × En → Prop} (e : frzE z ρ = ρ') (h1 : it ρ' = .ret xs) (h : Wp (forL (fun x ρ => bindR (bindT t x ρ) fun ρ' => b ρ') xs ρ') Q E) : Wp (sF z t it b ρ) Q E := by
  subst e
  refine .bind (.eq h1 (.ret h))
end
end Bx
/-! Bx26: errors as values; isinstance against a built-in class; enumerate, reversed -/
namespace Bx
open PySem PySem.Spec L2
section
variable {X : Cx} {e : Expr}
/-- an expression that makes an error, as a value: the error is kept as data -/
theorem pe_mk {t : St → Hp → XK → Prop} (hex : X.ex = []) (h : PMk X e t) : PE X e (fun σ H Q => t σ H fun cls d H1 => ∀ a, H1 a = none → Q (.ref a) (upd H1 a (ExT cls d a))) := by
  refine ⟨fun pins s σ H Q I q => wpAny_mono (h pins s σ H _ I q) (fun u s1 hu => ?_) fun _ _ x => x⟩
  obtain ⟨a, oe, vs, sI, H', cls, d, rfl, J, k, hne, ha, hz, hd, h1, na, os, ag, r, q⟩ := hu
  have J0 := J.kept (t' := s1.toks) k
  have J1 : Inv X pins σ H' s1 := ⟨J0.ok, os.trans J0.os, ag, J0.base, J0.loc, J0.cell, J0.free, J0.freeC, J0.pin, J0.hok, J0.len⟩
  have g0 : X.s_0.heap.get? a = none := by
    cases z : X.s_0.heap.get? a with
    | none => rfl
    | some o =>
      obtain ⟨o', z'⟩ := J.base.there a o z (by rw [hex]; simp)
      rw [hne] at z'; cases z'
  have nL : a ≠ X.env.locals := fun z => by
    obtain ⟨m, hn, _⟩ := J.loc
    obtain ⟨o, es, ep, e1, _⟩ := hn
    rw [← z, hne] at e1; cases e1
  have np : ∀ p ∈ X.pn ++ pins, p.1 ≠ a := fun p hp z => by
    have := (J.pin p hp).1
    rw [z, hne] at this; cases this
  exact ⟨.ref a, _, Inv.known J1 ha hz hd na g0 nL np, rfl, q a na⟩
end
/-- E(words), an own error without a field -/
def xEp (c : Nat) (a : XE1) : XE1 := fun ρ => do
  let _ ← a ρ
  .ret (.fz (.exc c .non))
/-- E(v), an own error with a field -/
def xEf (c : Nat) (a : XE1) : XE1 := fun ρ => do
  let m ← a ρ
  .ret (.fz (.exc c m.toD))
section
variable {X : Cx} {W : Wd} {Wx : WX} {Ex : XK} {pk g : Bool} {k : Nat} {a b c : Expr} {pos : Pos} {ra rb rc : XE1} {ta tb : XTs}
theorem w_ep (o : Ok X W Wx k g) {n : Nat} {x : Str} {p : Pos} (E : ErP W X.K X.mg n x) (ha : PE X a (XT W Wx true ra)) (hex : X.ex = [] := by rfl) (hg : Gl X x := by rfl) (hdb : (x == ("__debug__" : Str)) = false := by decide)
    (hs : starEach [a] X.env = (false, eval a X.env) :: starEach [] X.env := by rfl) : PE X (.Call (.Name x p) [a] [] pos) (XT W Wx pk (xEp n ra)) := by
  refine pe_imp (pe_mk hex (SkE.pmk_own1 F.excBase_ValueError E.q E.gC E.kC (raises_own E.exC E.tyC) hg ha hs hdb)) fun σ H Q h => ?_
  obtain ⟨F, A, ρ, G, h⟩ := h
  refine XT.use G h fun m v F1 H1 A1 g1 r1 o1 h1 => fun ad hn => ?_
  have g3 := Grow.data g1.st (ExT (.ref (W.clsA n)) none ad) hn
  exact h1 (.ref ad) _ _ [] (g1.trans g3) (.fz (.exc0 E.hf upd_same)) .nil
theorem w_ef (o : Ok X W Wx k g) {n : Nat} {x f msg : Str} {p : Pos} (E : ErF W X.prog X.K X.mg n x f msg) (ha : PE X a (XT W Wx false ra)) (hex : X.ex = [] := by rfl) (hg : Gl X x := by rfl) (hdb : (x == ("__debug__" : Str)) = false := by decide)
    (hs : starEach [a] X.env = (false, eval a X.env) :: starEach [] X.env := by rfl) : PE X (.Call (.Name x p) [a] [] pos) (XT W Wx pk (xEf n ra)) := by
  obtain ⟨⟨fI, T⟩, FL, hf, fl⟩ := E
  subst fl
  refine pe_imp (pe_mk hex (pmk_sup T FL o.rm (pa_cons ha pa_nil hs) hg hdb hs rfl)) fun σ H Q h => ?_
  obtain ⟨F, A, ρ, G, h⟩ := h
  refine XT.use G h fun m v F1 H1 A1 g1 r1 o1 h1 => ?_
  have g2 := Grow.frz g1.st g1 r1.owns o1.fresh
  refine ⟨v, rfl, fun d hd ad hn => ?_⟩
  have g3 := Grow.data g2.st (.xd [(W.fld n, v)]) hd
  have g4 := Grow.data g3.st (ExT (.ref (W.clsA n)) (some d) ad) hn
  have nd : ad ≠ d := fun z => by rw [z, upd_same] at hn; cases hn
  refine h1 (.ref ad) _ _ [] ((g2.trans g3).trans g4) (.fz (.exc1 hf upd_same (by rw [upd_ne (Ne.symm nd)]; exact upd_same) (((r1.frz' m).mono g3.ff).mono g4.ff))) .nil
end
/-! isinstance against a class that is built in -/
def rIsY (K : PySem.W.Frag) (T : String) : List V → Hp → VK → Prop := fun xs H Q => ∃ (a C : Addr) (d : Option Addr) (b : Bool), xs = [.ref a, .ty T] ∧ H a = some (ExT (.ref C) d a) ∧ (d = none ∨ ∃ dd fs, d = some dd ∧ H dd = some (.xd fs)) ∧ EcT K C ∧ PySem.W.kitOne K (.ref C) (.type T) = some b ∧ Q (.bl b) H
theorem call_isY {X : Cx} (T : String) : CallR X (.builtin "isinstance") (rIsY X.K T) := by
  intro pins s σ H xs us Q I r h
  obtain ⟨a, C, d, b, rfl, ha, hd, E, e, q⟩ := h
  cases r with
  | cons rx rr =>
    cases rr with
    | cons rt rr =>
      cases rr
      cases rx
      cases rt
      obtain ⟨oe, od, J, _⟩ := inst_of I ha hd
      exact PySem.W.kia_one (PySem.W.kitx_exc E.hcl E.hg E.hk E.hs E.ha E.hn E.ht E.hm) I.kIn J e (fun z => nomatch z) fun tk => ⟨.bl b, H, I.kept (t' := tk) fun _ _ z => z, rfl, q⟩
def isbM (sub : List Bool) : M → R M
  | .fz (.exc k _) => match sub[k]? with
    | some b => mB b
    | none => .bad
  | _ => .bad
theorem isbM_ret (sub : List Bool) (m : M) : isRet (isbM sub m) = true := by
  unfold isbM
  repeat' split
  all_goals rfl
structure IsB (W : Wd) (T : String) (sub : List Bool) : Prop where
  ex : ∀ k b, sub[k]? = some b → EcT W.K (W.clsA k) ∧ PySem.W.kitOne W.K (.ref (W.clsA k)) (.type T) = some b
section
variable {X : Cx} {W : Wd} {Wx : WX} {Ex : XK} {pk g : Bool} {k : Nat} {a b c : Expr} {pos : Pos} {ra rb rc : XE1} {ta tb : XTs} {F H : Hp}
theorem w_isb (o : Ok X W Wx k g) {T : String} {x : Str} {p pc : Pos} {sub : List Bool} (S : IsB W T sub) (hm : X.mg "isinstance" = none) (hmc : X.mg x = none) (ha : PE X a (XT W Wx true ra)) (hv : bootBuiltins x = some (.type T) := by decide +kernel) (hg : Gl X "isinstance" := by rfl) (hgx : Gl X x := by rfl) (hn : x ≠ "__name__" := by decide) (hdx : (x == ("__debug__" : Str)) = false := by decide)
    (he : starEach [a, .Name x pc] X.env = (false, eval a X.env) :: starEach [.Name x pc] X.env := by rfl) : PE X (.Call (.Name "isinstance" p) [a, .Name x pc] [] pos) (XT W Wx pk (xU (isbM sub) ra)) := by
  have hK := o.K
  have he2 : starEach [.Name x pc] X.env = (false, eval (.Name x pc) X.env) :: starEach [] X.env := rfl
  refine pe_imp (pe_callB (call_isY T) hg hm (by decide +kernel) (pa_cons ha (pa_cons (pe_bltn (v := .ty T) hgx hmc hv rfl hn hdx) pa_nil he2) he) (by decide) (by decide) he (by rw [he2]; rfl)) fun σ H Q h => ?_
  obtain ⟨F, A, ρ, G, h⟩ := h
  refine XT.use G h fun m v F1 H1 A1 g1 r1 o1 h1 => ?_
  obtain ⟨z, ez, q⟩ := isRet_wp (isbM_ret sub m) h1
  unfold isbM at ez
  split at ez
  · rename_i k p
    have eb : ∃ b, sub[k]? = some b ∧ z = .fz (.bl b) := by
      split at ez
      · rename_i b eb
        cases ez
        exact ⟨b, eb, rfl⟩
      · cases ez
    obtain ⟨b, eb, rfl⟩ := eb
    obtain ⟨hE, hs⟩ := S.ex k _ eb
    rw [← hK] at hE hs
    cases r1 with
    | fz r =>
      cases r with
      | exc0 hh h => exact ⟨_, _, none, _, rfl, g1.st.fh _ _ h, .inl rfl, hE, hs, q _ F1 H1 [] g1 (.fz (.bl _)) .nil⟩
      | exc1 hh h h2 h3 => exact ⟨_, _, some _, _, rfl, g1.st.fh _ _ h, .inr ⟨_, _, rfl, g1.st.fh _ _ h2⟩, hE, hs, q _ F1 H1 [] g1 (.fz (.bl _)) .nil⟩
  · cases ez
/-! enumerate, reversed -/
def enumL (m : M) : R (List D) := match lstM m with
  | some l => .ret (l.zipIdx.map fun p => .tup [.int (p.2 : Nat), p.1])
  | none => .bad
theorem enumL_ret (m : M) : isRet (enumL m) = true := by
  unfold enumL
  split <;> rfl
def revL (m : M) : R (List D) := match lstM m with
  | some l => .ret l.reverse
  | none => .bad
theorem revL_ret (m : M) : isRet (revL m) = true := by
  unfold revL
  split <;> rfl
def iE (a : XE1) : XIs := fun ρ => do
  let m ← a ρ
  enumL m
def iRv (a : XE1) : XIs := fun ρ => do
  let m ← a ρ
  revL m
theorem yen_rep {xs : List V} {l : List D} (hl : RepL W F xs l) : ∀ i F1 H1 x H2, i < xs.length → Same F F1 → St0 W F1 H1 → YPair (fun i => some (.int (i : Nat))) (fun i => xs[i]?) i H1 x H2 → ∃ F2 d, Grow W F1 H1 F2 H2 ∧ (l.zipIdx.map fun p => D.tup [.int (p.2 : Nat), p.1])[i]? = some d ∧ Rep W F2 x d := fun i F1 H1 x H2 _ ff st y => by
  obtain ⟨T, u, v, rfl, hT, rfl, e1, e2⟩ := y
  cases e1
  obtain ⟨d, hd, r⟩ := hl.get e2
  have g := Grow.data st (.tup [.int (i : Nat), v]) hT
  refine ⟨_, .tup [.int (i : Nat), d], g, ?_, .tup (.inl (.inl upd_same)) (.cons (.int _) (.cons ((r.mono ff).mono g.ff) .nil))⟩
  rw [List.getElem?_map, List.getElem?_zipIdx, hd]
  simp
theorem i_en (o : Ok X W Wx k g) {p tpos : Pos} {elts : List Expr} {kk : Nat} (hm : X.mg "enumerate" = none) (ha : PE X a (XT W Wx pk ra)) (hg : Gl X "enumerate" := by rfl) (hs : starEach [a] X.env = (false, eval a X.env) :: starEach [] X.env := by rfl) :
    PI X (.Tuple elts kk tpos) (.Call (.Name "enumerate" p) [a] [] pos) (XI W Wx pk (iE ra)) := by
  have hK := o.K
  refine pi_imp (pi_enum hg hm (pa_cons ha pa_nil hs) (by rw [hs]; rfl)) fun σ H Q h => ?_
  obtain ⟨F, A, ρ, G, h⟩ := h
  refine XT.use G h fun m v F1 H1 A1 g1 r1 o1 h1 => ?_
  obtain ⟨l, el, q⟩ := isRet_wp (enumL_ret m) h1
  unfold enumL at el
  split at el
  · rename_i l0 e
    cases el
    obtain ⟨p, xs, rfl, hH, hl, hs⟩ := lst_stay g1.st r1 e
    rw [hK]
    exact ⟨p, xs, rfl, sqL_of hH, q F1 H1 A1 _ g1 ⟨xs.length, _, _, walk_enum, by simp [hl.length], fun F2 H2 ff st k => stay_to hH hs ff st k, yen_rep hl⟩ r1.owns o1⟩
  · cases el
theorem yrv_rep {xs : List V} {l : List D} (hl : RepL W F xs l) : ∀ i F1 H1 x H2, i < xs.length → Same F F1 → St0 W F1 H1 → (H2 = H1 ∧ xs[xs.length - 1 - i]? = some x) → ∃ F2 d, Grow W F1 H1 F2 H2 ∧ l.reverse[i]? = some d ∧ Rep W F2 x d := fun i F1 H1 x H2 hi ff st y => by
  obtain ⟨rfl, hx⟩ := y
  obtain ⟨d, hd, r⟩ := hl.get hx
  refine ⟨F1, d, Grow.refl st, ?_, r.mono ff⟩
  rw [List.getElem?_reverse (by rw [← hl.length]; exact hi), ← hl.length]
  exact hd
theorem i_rv (o : Ok X W Wx k g) {tg : Expr} {p : Pos} (hm : X.mg "reversed" = none) (ha : PE X a (XT W Wx pk ra)) (hg : Gl X "reversed" := by rfl) (hs : starEach [a] X.env = (false, eval a X.env) :: starEach [] X.env := by rfl) :
    PI X tg (.Call (.Name "reversed" p) [a] [] pos) (XI W Wx pk (iRv ra)) := by
  have hK := o.K
  refine pi_imp (RT.pi_revA hg hm ha hs) fun σ H Q h => ?_
  obtain ⟨F, A, ρ, G, h⟩ := h
  refine XT.use G h fun m v F1 H1 A1 g1 r1 o1 h1 => ?_
  obtain ⟨l, el, q⟩ := isRet_wp (revL_ret m) h1
  unfold revL at el
  split at el
  · rename_i l0 e
    cases el
    obtain ⟨p, xs, rfl, hH, hl, hs⟩ := lst_stay g1.st r1 e
    rw [hK]
    exact ⟨p, xs, rfl, .inl ⟨sqL_of hH, q F1 H1 A1 _ g1 ⟨xs.length, _, _, walk_rev, by simp [hl.length], fun F2 H2 ff st k => stay_to hH hs ff st k, yrv_rep hl⟩ r1.owns o1⟩⟩
  · cases el
end
end Bx
/-! Bx27: an own error with a field, its value told by name -/
namespace PySem
namespace SupX
open PySem.W PySem.Calls PyProof.Rows PySem.HandSPX Builtin Builtin.ObjectAttr
section
variable {M : Model} {A : Around} {E : Value → Shared → Prop} {h : Heap} {g : Array GenState} {d : Drawn} {t : Nat} {os : OsState}
variable {nm q : Str} {C N : Addr} {bs bm bmB : List Value} {hdct : Bool} {sn : List Str} {sub : List Value} {ab : Bool} {col : Option Bool} {dd : Option Addr} {k0 k1 k2 k3 k5 : Option Value} {B newId initId : String}
theorem newK_check (FB : ExcBaseFacts B newId initId bmB) (hT : ∀ X : String, bm.contains (.type X) = bmB.contains (.type X)) {kw : List (Str × Value)} {Q : Unit → Shared → Prop}
    (hC : h.get? C = some (excClassObj nm q C N bs bm hdct sn sub ab col dd k0 k1 k2 k3 k5 newId)) (hq : Q () ⟨h, g, d, t, os⟩) : wpAny M A (checkBuiltinCall newId ⟨[.ref C], kw⟩) Q E ⟨h, g, d, t, os⟩ := by
  have z1 : (Value.ref C :: bm).contains (.type B) = true := by rw [List.contains_cons, hT, FB.hasB, Bool.or_true]
  have z2 := FB.noStar
  simp only [checkBuiltinCall, FB.newKind, FB.newSplit, FB.newRow]
  repeat (first | refine wpAny_loadPart_at hC ?_ | (refine wpAny_isSubtype_exc hC ?_; rw [z1]) | refine wpAny_staticBase_exc hC ?_ | refine wpAny_madeBy_exc hC ?_ | simp only [bne_self_eq_false, Bool.false_eq_true, if_false] | wp_step)
  exact hq
end
section
variable {prog : Program} {w : World} {A : Around} {E : Value → Shared → Prop} {R : Result → Shared → Prop} {h : Heap} {g : Array GenState} {d : Drawn} {t : Nat} {os : OsState}
variable {nm q : Str} {C N : Addr} {bs bm bmB : List Value} {hdct : Bool} {sn : List Str} {sub : List Value} {ab : Bool} {col : Option Bool} {dd : Option Addr} {k0 k1 k2 k3 k5 : Option Value} {B newId initId : String}
theorem newK (FB : ExcBaseFacts B newId initId bmB) (hT : ∀ X : String, bm.contains (.type X) = bmB.contains (.type X)) {kw : List (Str × Value)}
    (hC : h.get? C = some (excClassObj nm q C N bs bm hdct sn sub ab col dd k0 k1 k2 k3 k5 newId))
    (hq : R (.ok (.ret (.ref (h.objs.size + 1)))) ⟨(h.push (W.kdv_tup [])).push (excO C h.objs.size), g, d, t, os⟩) :
    codeAny (model prog w) A (.builtin newId ⟨[.ref C], kw⟩) R ⟨h, g, d, t, os⟩ := by
  have z0 := FB.ends
  have z1 : (Value.ref C :: bm).contains (.type B) = true := by rw [List.contains_cons, hT, FB.hasB, Bool.or_true]
  have z2 : (Value.ref C :: bm).contains (.type "AttributeError") = false := by rw [List.contains_cons, hT, FB.noAttr]; rfl
  have z3 : (Value.ref C :: bm).contains (.type "NameError") = false := by rw [List.contains_cons, hT, FB.noName]; rfl
  have hrest : ([] : List Value).length ≤ sizeLine := Nat.zero_le _
  refine codeAny_builtinAt FB.entry ?_
  unfold Builtin.«BaseException.__new__»
  refine wpAt_bind ?_
  show wpAt _ _ _ (stack >>= _) _ _ _
  refine wpAt_bind (wpAt_stack fun p below => wpAt_of_wpAny ?_)
  wp_walk
  refine wpAt_of_wpAny ?_
  rw [FB.owner]
  repeat (first | with_reducible refine wpAny_madeHere_exc FB.canon hC ?_ | with_reducible refine wpAny_loadPart_at hC ?_ | (with_reducible refine wpAny_isSubtype_exc hC ?_; first | rw [z1] | rw [z2] | rw [z3]) | wp_step)
  show R _ _
  rw [Heap.size_push]
  exact hq
theorem callK_type (FB : ExcBaseFacts B newId initId bmB) (hT : ∀ X : String, bm.contains (.type X) = bmB.contains (.type X)) {f : Str} {v : Value} {fI : Addr} {Q : Fin → Shared → Prop}
    (hC : h.get? C = some (excClassObj nm q C N bs bm hdct sn sub ab col dd k0 k1 k2 k3 k5 newId))
    (hi : W.Looks (model prog w) h (typeLookup (.ref C) "__init__") (some (.ref fI))) (hb : ∀ self, W.Looks (model prog w) h (bindSpecial (.ref fI) self) (.ref fI, [self]))
    (hq : codeAny (model prog w) A (.call (.ref fI) ⟨[.ref (h.objs.size + 1)], [(f, v)]⟩)
      (fun r s' => match r with | .ok (.ret v) => v = .none ∧ Q (.done (.ret (.ref (h.objs.size + 1)))) s' | .ok _ => False | .error e => E e s')
      ⟨(h.push (W.kdv_tup [])).push (excO C h.objs.size), g, d, t, os⟩) :
    wpAny (model prog w) A (Builtin.«type.__call__» ⟨[.ref C], [(f, v)]⟩) Q E ⟨h, g, d, t, os⟩ := by
  repeat (first | with_reducible refine wpAny_loadPart_at hC ?_ | with_reducible refine wpAny_madeBy_exc hC ?_ | wp_step)
  refine codeAny_call_builtin_code (Code.quiet_builtin _ FB.quiet) (newK_check FB hT hC ?_)
  refine newK FB hT hC ?_
  show wpAny _ _ _ _ _ _
  have k : ∀ b o, h.get? b = some o → ((h.push (W.kdv_tup [])).push (excO C h.objs.size)).get? b = some o := fun b o e => Heap.get?_push_of_some _ (Heap.get?_push_of_some _ e)
  have hC₁ := k _ _ hC
  have hget : ((h.push (W.kdv_tup [])).push (excO C h.objs.size)).get? (h.objs.size + 1) = some (excO C h.objs.size) := by heap_get
  have hcC : (Value.ref C :: bm).contains (.ref C) = true := by simp
  have i1 := hi.keeps k
  have b1 := (hb (.ref (h.objs.size + 1))).keeps k
  unfold isInstance
  repeat (first | with_reducible refine wpAny_loadPart_at hget ?_ | (with_reducible refine wpAny_isSubtype_exc hC₁ ?_; rw [hcC]) | wp_step)
  show wpAny _ _ (typeLookup (.ref C) _) _ _ _
  refine i1.at ?_
  refine wpAny_holding (wpAny_bind (b1.at ?_))
  refine wpAny_bind (wpAny_call (codeAny_mono hq fun r s' z => ?_))
  rcases r with e | (v | _ | _ | _) <;> first | exact z | exact z.elim | skip
  obtain ⟨rfl, z⟩ := z
  first
    | exact wpAny_pure (wpAny_pure z)
    | (wp_walk; exact z)
end
end SupX
end PySem
/-! Bx28: E(f=v) -/
namespace PySem
namespace SupX
open PySem.W PySem.Calls PyProof.Rows PySem.HandSPX Builtin Builtin.ObjectAttr
section
variable {prog : Program} {w : World} {A : Around} {E : Value → Shared → Prop} {R : Result → Shared → Prop} {h : Heap} {g : Array GenState} {d : Drawn} {t : Nat} {os : OsState}
variable {nm q : Str} {C N : Addr} {bs bm bmB : List Value} {hdct : Bool} {sn : List Str} {sub : List Value} {ab : Bool} {col : Option Bool} {dd : Option Addr} {k0 k1 k2 k3 k5 : Option Value} {B newId initId : String}
theorem checkK_type {M : Model} {kw : List (Str × Value)} {Q : Unit → Shared → Prop} (hC : h.get? C = some (excClassObj nm q C N bs bm hdct sn sub ab col dd k0 k1 k2 k3 k5 newId))
    (hq : Q () ⟨h, g, d, t, os⟩) : wpAny M A (checkBuiltinCall "type.__call__" ⟨[.ref C], kw⟩) Q E ⟨h, g, d, t, os⟩ := by
  have z1 := tc_sub
  have z2 : (⟨h, g, d, t, os⟩ : Shared).TypeIs (.ref C) "type" := ⟨_, hC, rfl⟩
  simp only [checkBuiltinCall, tc_kind, tc_split]
  repeat (any_goals (first | assumption | with_reducible refine wpAny_loadPart_at hC ?_ | with_reducible refine wpAny_onRaise ?_ | with_reducible refine wpAny_map ?_ | wp_step))
theorem ownK (FB : ExcBaseFacts B newId initId bmB) (hT : ∀ X : String, bm.contains (.type X) = bmB.contains (.type X)) {f : Str} {v : Value} {fI : Addr}
    (hC : h.get? C = some (excClassObj nm q C N bs bm hdct sn sub ab col dd k0 k1 k2 k3 k5 newId))
    (hi : W.Looks (model prog w) h (typeLookup (.ref C) "__init__") (some (.ref fI))) (hb : ∀ self, W.Looks (model prog w) h (bindSpecial (.ref fI) self) (.ref fI, [self]))
    (hq : codeAny (model prog w) (A.under (.builtin "type.__call__" ⟨[.ref C], [(f, v)]⟩)) (.call (.ref fI) ⟨[.ref (h.objs.size + 1)], [(f, v)]⟩) (W.InitBack (h.objs.size + 1) R)
      ⟨(h.push (W.kdv_tup [])).push (excO C h.objs.size), g, d, t, os⟩) :
    codeAny (model prog w) A (.call (.ref C) ⟨[], [(f, v)]⟩) R ⟨h, g, d, t, os⟩ := by
  have z1 := tc_lookup
  have z2 := tc_bind (.ref C)
  have z3 : (⟨h, g, d, t, os⟩ : Shared).TypeIs (.ref C) "type" := ⟨_, hC, rfl⟩
  refine codeAny_of_tree ?_
  show wpAny _ _ (callAny (.ref C) _) _ _ _
  repeat (any_goals (first | assumption | with_reducible refine wpAny_loadPart_at hC ?_ | wp_step))
  refine ⟨rfl, ?_⟩
  refine codeAny_call_builtin_at (Code.quiet_builtin _ (by decide +kernel)) entry_typeCall (checkK_type hC (callK_type FB hT hC hi hb ?_))
  refine codeAny_mono hq fun r s' z => ?_
  rcases r with e | (v | _ | _ | _) <;> exact z
theorem madeK {s : Shared} {K : Frag} {mg mb : Str → Option Value} {C fI : Addr} {f msg xn : Str} (T : SupTxt prog K mg xn C fI f msg) (FL : Fld f) {v : Value}
    (hbd : ∀ (q : Str) (p1 p2 : Pos) (p : Ps) (doc pm cda ct : Value) (an : Option Addr) (cc x : Addr), bindArgs (ksFn "__init__" q (iA f p1 p2) (iB f msg p) (iS f) .none .none doc pm an cda ct cc) ⟨[.ref x], [(f, v)]⟩ = pure [(("self" : Str), Value.ref x), (f, v)])
    (X : K.In s.heap) (G : s.heap.Ns mainGlobals mg) (B : s.heap.Ns builtinsNs mb) (hb : mb "super" = some (.type "super")) (hlim : s.heap.NoLimit) (hroom : A.depth + 1 < recursionLimit)
    (hq : ∀ h' tk e d, OwnMade f s.heap h' e C d v → R (.ok (.ret (.ref e))) { s with heap := h', toks := tk }) :
    codeAny (model prog w) A (.call (.ref C) ⟨[], [(f, v)]⟩) R s := by
  obtain ⟨nm, q, N, bs, bm, sn, sub, ab, col, dd, k0, k1, k2, k3, k5, hC, hbm⟩ := T.cls
  obtain ⟨hp, g, dr, tk, os⟩ := s
  have k : ∀ b o, hp.get? b = some o → ((hp.push (kdv_tup [])).push (excO C hp.objs.size)).get? b = some o := fun b o e => Heap.get?_push_of_some _ (Heap.get?_push_of_some _ e)
  have hget : ((hp.push (kdv_tup [])).push (excO C hp.objs.size)).get? (hp.objs.size + 1) = some (excO C hp.objs.size) := by heap_get
  have hnx : K.lookup (hp.objs.size + 1) = none := by
    cases e : K.lookup (hp.objs.size + 1) with
    | none => rfl
    | some o =>
      have z : hp.get? (hp.objs.size + 1) = some o := X _ _ e
      exact absurd (Nat.lt_of_succ_lt (Heap.lt_size z)) (Nat.lt_irrefl _)
  refine ownK F.excBase_ValueError (fun X => refsVE_contains X bm hbm) (X _ _ hC) (looks_findIn X T.iC) (fun self => bind_fn X self T.tC) ?_
  refine sup_init (s := ⟨(hp.push (kdv_tup [])).push (excO C hp.objs.size), g, dr, tk, os⟩) T FL (fun _ _ _ _ _ _ _ _ _ _ => hbd _ _ _ _ _ _ _ _ _ _ _) (X.keeps k) (G.keeps k) (B.keeps k) hb (hlim.keeps k) hget hnx ?_ fun h' tk' dx ⟨k', ⟨t1, hx⟩, dn, dne, hns⟩ => ?_
  · show A.depth + 1 < recursionLimit
    exact hroom
  · have old : ∀ b o, hp.get? b = some o → h'.get? b = some o := fun b o e => k' b o (Nat.ne_of_lt (Nat.lt_succ_of_lt (Heap.lt_size e))) (k b o e)
    have z : hp.objs.size + 1 + 1 ≤ dx := by
      first
        | (simpa only [Heap.size_push] using dn)
        | exact dn
        | (have q := dn; rw [Heap.size_push, Heap.size_push] at q; exact q)
    exact ⟨rfl, hq h' tk' (hp.objs.size + 1) dx ⟨old, Nat.le_succ _, ⟨_, _, hx, rfl, rfl, rfl, rfl⟩, Nat.le_trans (Nat.le_trans (Nat.le_succ _) (Nat.le_succ _)) z, dne, hns⟩⟩
end
end SupX
end PySem
namespace Bx
open PySem PySem.Spec L2
section
variable {X : Cx} {C fI : Addr} {f msg x : Str}
theorem pmk_supK {a : Expr} {ta : TE} {p pos kp : Pos} {k : Nat} (T : PySem.SupX.SupTxt X.prog X.K X.mg x C fI f msg) (FL : PySem.SupX.Fld f)
    (hbd : ∀ (q msg : Str) (p1 p2 : Pos) (p : PySem.SupX.Ps) (doc pm cda ct : Value) (an : Option Addr) (cc x : Addr) (v : Value), bindArgs (PySem.W.ksFn "__init__" q (PySem.SupX.iA f p1 p2) (PySem.SupX.iB f msg p) (PySem.SupX.iS f) .none .none doc pm an cda ct cc) ⟨[.ref x], [(f, v)]⟩ = pure [(("self" : Str), Value.ref x), (f, v)])
    (hr : Room k X.A) (ha : PE X a ta) (hg : Gl X x) (hdb : (x == ("__debug__" : Str)) = false) :
    PMk X (.Call (.Name x p) [] [⟨some f, a, kp⟩] pos) (tMkF C f (tCons ta tNil)) := by
  intro pins s σ H Q I h
  refine wpAny_Call_Name_kw (ld_glob I hg T.gC ?_ hdb)
  refine PySem.W.callWith_KW0 (h₀ := X.base) I.ok.mod.kin T.kC (by rfl) (thn ((pk_cons ha pk_nil).run pos pins s σ H _ I h) fun us s1 hh => ?_) (by rfl)
  obtain ⟨vs, H1, I1, r1, v, ev, q1⟩ := hh
  subst ev
  cases r1 with
  | cons rv rn =>
    rename_i v' us'
    cases rn
    refine ⟨I1.kIn, ?_⟩
    show wpAny _ _ (call (.ref C) [] [(f, v')]) _ _ _
    have hlim := I1.nolimit
    obtain ⟨mb, hb1, hb2⟩ := I1.mod.blt
    have hsb : mb "super" = some (.type "super") := (hb2 _ (by decide)).trans (by decide +kernel)
    have hG := I1.mod.glob.keeps I1.bk
    have hB := hb1.keeps I1.bk
    obtain ⟨hp, g, dr, tk, os⟩ := s1
    refine wpAny_call (PySem.SupX.madeK T FL (fun _ _ _ _ _ _ _ _ _ _ _ => hbd _ _ _ _ _ _ _ _ _ _ _ _ _) I1.kIn hG hB hsb hlim (by have := hr.dp; omega) fun h' tk' e d M => ?_)
    show MkP X pins σ Q (.ref e) ⟨h', g, dr, tk', os⟩
    obtain ⟨oe, fv, hoe, hc, hd, hdat, h1⟩ := M.obj
    have hns := M.ns
    obtain ⟨G', g1, g2⟩ := restrict h' fun b => decide (b ≠ e)
    have gk : ∀ b, b ≠ e → G'.get? b = h'.get? b := fun b hb => g1 b (decide_eq_true hb)
    have ge : G'.get? e = none := g2 e (by simp)
    have old : ∀ b o, hp.get? b = some o → G'.get? b = some o := fun b o q => (gk b (Nat.ne_of_lt (Nat.lt_of_lt_of_le (Heap.lt_size q) M.new))).trans (M.keep b o q)
    have ob : ObjOk X.prog X.w (upd H1 d (.xd [(f, v)])) G' d (.xd [(f, v)]) :=
      ⟨_, hns.at (fun o q => (gk d M.dne).trans q), fun g => relO_one rv g⟩
    have J : Inv X pins σ (upd H1 d (.xd [(f, v)])) ⟨G', g, dr, tk', os⟩ := I1.laid (t' := tk') old M.dbig ob
    refine ⟨e, oe, fv, ⟨G', g, dr, tk', os⟩, _, .ref C, some d, rfl, J, fun b o q => ?_, ge, hoe, ⟨hc, hd⟩, hdat, h1, ?_, rfl, I1.bare, raises_own T.exC T.tyC, q1 d (I1.hok.fresh M.dbig)⟩
    · by_cases hb : b = e
      · have q' : G'.get? b = some o := q
        rw [hb, ge] at q'; cases q'
      · exact (gk b hb).symm.trans q
    · rw [upd_ne (Ne.symm M.dne)]
      exact I1.hok.fresh M.new
end
section
variable {X : Cx} {W : Wd} {Wx : WX} {Ex : XK} {pk g : Bool} {k : Nat} {a b c : Expr} {pos : Pos} {ra rb rc : XE1}
theorem w_efk (o : Ok X W Wx k g) {n : Nat} {x f msg : Str} {p kp : Pos} (E : ErF W X.prog X.K X.mg n x f msg) (ha : PE X a (XT W Wx false ra)) (hex : X.ex = [] := by rfl) (hg : Gl X x := by rfl) (hdb : (x == ("__debug__" : Str)) = false := by decide)
    (hbd : ∀ (q msg : Str) (p1 p2 : Pos) (p : PySem.SupX.Ps) (doc pm cda ct : Value) (an : Option Addr) (cc x : Addr) (v : Value), bindArgs (PySem.W.ksFn "__init__" q (PySem.SupX.iA f p1 p2) (PySem.SupX.iB f msg p) (PySem.SupX.iS f) .none .none doc pm an cda ct cc) ⟨[.ref x], [(f, v)]⟩ = pure [(("self" : Str), Value.ref x), (f, v)] := by intros; rfl) :
    PE X (.Call (.Name x p) [] [⟨some f, a, kp⟩] pos) (XT W Wx pk (xEf n ra)) := by
  obtain ⟨⟨fI, T⟩, FL, hf, fl⟩ := E
  subst fl
  refine pe_imp (pe_mk hex (pmk_supK T FL hbd o.rm ha hg hdb)) fun σ H Q h => ?_
  obtain ⟨F, A, ρ, G, h⟩ := h
  refine XT.use G h fun m v F1 H1 A1 g1 r1 o1 h1 => ?_
  have g2 := Grow.frz g1.st g1 r1.owns o1.fresh
  refine ⟨v, rfl, fun d hd ad hn => ?_⟩
  have g3 := Grow.data g2.st (.xd [(W.fld n, v)]) hd
  have g4 := Grow.data g3.st (ExT (.ref (W.clsA n)) (some d) ad) hn
  have nd : ad ≠ d := fun z => by rw [z, upd_same] at hn; cases hn
  refine h1 (.ref ad) _ _ [] ((g2.trans g3).trans g4) (.fz (.exc1 hf upd_same (by rw [upd_ne (Ne.symm nd)]; exact upd_same) (((r1.frz' m).mono g3.ff).mono g4.ff))) .nil
end
end Bx
/-! Bx29: {} -/
namespace Bx
open PySem PySem.Spec L2
def xD0 : XE1 := fun _ => .ret (.od [])
section
variable {X : Cx} {W : Wd} {Wx : WX} {pk g : Bool} {k : Nat} {pos : Pos}
theorem w_d0 : PE X (.Dict [] [] pos) (XT W Wx pk xD0) := by
  refine pe_imp pe_dnewK fun σ H Q h => ?_
  obtain ⟨F, A, ρ, G, h⟩ := h
  intro p hp
  have g0 := Grow.own G.st (.dK []) hp
  have ng := G.st.nogh hp
  have hF := G.st.fnone hp
  exact h (.ref p) F _ [p] g0 (.odK upd_same hF ng .nil) (Own.of_new (fun a ha => by rw [List.mem_singleton.mp ha]; exact hp) (by simp))
theorem w_d0T : PE X (.Dict [] [] pos) (XT W Wx pk xD0) := by
  refine pe_imp pe_dnewT fun σ H Q h => ?_
  obtain ⟨F, A, ρ, G, h⟩ := h
  intro p hp
  have g0 := Grow.own G.st (.dT []) hp
  have ng := G.st.nogh hp
  have hF := G.st.fnone hp
  exact h (.ref p) F _ [p] g0 (.odT upd_same hF ng .nil) (Own.of_new (fun a ha => by rw [List.mem_singleton.mp ha]; exact hp) (by simp))
end
end Bx
/-! Bx30: repr of data with dicts -/
namespace Bx
open PySem PySem.Spec L2
section
variable {prog : Program} {w : World} {h : Heap}
mutual
/-- what stands in the heap, its dicts not sys.modules -/
inductive Rdz (h : Heap) : Value → PyData → Prop
  | non : Rdz h .none .none
  | bl (b : Bool) : Rdz h (.bool b) (.bool b)
  | int (i : Int) (t : Tok) : Rdz h (.int i t) (.int i)
  | str (x : Str) (t : Tok) : Rdz h (.str x t) (.str x)
  | lst {a : Addr} {o : Obj} {vs : Array Value} {n : Nat} {xs : List PyData} : h.get? a = some o → o.cls = .type "list" → o.data = .seq vs n → RdzL h vs.toList xs → Rdz h (.ref a) (.list xs)
  | tup {a : Addr} {o : Obj} {vs : Array Value} {n : Nat} {xs : List PyData} : h.get? a = some o → o.cls = .type "tuple" → o.data = .seq vs n → RdzL h vs.toList xs → Rdz h (.ref a) (.tuple xs)
  | dct {a : Addr} {o : Obj} {es : Array DictEntry} {n : Nat} {kvs : List (PyData × PyData)} : h.get? a = some o → o.cls = .type "dict" → o.data = .dict es n → (a == sysModules) = false →
      RdzL h (es.toList.map fun e => e.key) (kvs.map fun p => p.1) → RdzL h (es.toList.map fun e => e.val) (kvs.map fun p => p.2) → Rdz h (.ref a) (.dict kvs)
inductive RdzL (h : Heap) : List Value → List PyData → Prop
  | nil : RdzL h [] []
  | cons {v : Value} {vs : List Value} {d : PyData} {ds : List PyData} : Rdz h v d → RdzL h vs ds → RdzL h (v :: vs) (d :: ds)
end
mutual
theorem Rdz.reads : ∀ {v : Value} {d : PyData}, Rdz h v d → ∃ as, Reads h v d as
  | _, _, .non => ⟨_, .none⟩
  | _, _, .bl b => ⟨_, .bool b⟩
  | _, _, .int i t => ⟨_, .int i t⟩
  | _, _, .str x t => ⟨_, .str x t⟩
  | _, _, .lst a b c r => let ⟨_, q⟩ := RdzL.reads r; ⟨_, .list a b c q⟩
  | _, _, .tup a b c r => let ⟨_, q⟩ := RdzL.reads r; ⟨_, .tuple a b c q⟩
  | _, _, .dct a b c _ r s => let ⟨_, q⟩ := RdzL.reads r; let ⟨_, q2⟩ := RdzL.reads s; ⟨_, .dict a b c q q2⟩
theorem RdzL.reads : ∀ {v : List Value} {d : List PyData}, RdzL h v d → ∃ as, ReadsAll h v d as
  | _, _, .nil => ⟨_, .nil⟩
  | _, _, .cons a b => let ⟨_, q⟩ := Rdz.reads a; let ⟨_, q2⟩ := RdzL.reads b; ⟨_, .cons q q2⟩
end
mutual
theorem Rdz.out : ∀ {v : Value} {d : PyData}, Rdz h v d → d.showable = true → d.shown.length ≤ sizeLine → ∃ bs, ReadAtMost h d.depth bs ∧ ReprK prog w bs h d.depth v d.shown
  | _, _, .non, _, _ => ⟨[], (fun _ z => nomatch z), by simp only [PyData.shown]; exact .of_is ReprIs.none _ _ _⟩
  | _, _, .bl b, _, _ => ⟨[], (fun _ z => nomatch z), by simp only [PyData.shown]; exact .of_is (ReprIs.bool b) _ _ _⟩
  | _, _, .int i t, hs, _ => ⟨[], (fun _ z => nomatch z), by simp only [PyData.shown]; exact .of_is (ReprIs.int t (by simpa [PyData.showable] using hs)) _ _ _⟩
  | _, _, .str x t, _, hz => ⟨[], (fun _ z => nomatch z), by simp only [PyData.shown]; exact .of_is (ReprIs.str x t (by simpa only [PyData.shown] using hz)) _ _ _⟩
  | _, _, .lst (a := a) (vs := vs) (xs := xs) e1 e2 e3 e4, hs, hz => by
    have y : (listText (PyData.shownAll xs)).length ≤ sizeLine := by simpa only [PyData.shown] using hz
    obtain ⟨bs, b1, b2⟩ := RdzL.out e4 (by simpa [PyData.showable] using hs) fun t ht => Nat.le_trans (listText_mem_le ht) y
    obtain ⟨as, ra⟩ := Rdz.reads (.lst e1 e2 e3 e4)
    have na : a ∉ bs := not_mem_of_deeper ra (by simp only [PyData.depth]; omega) b1
    refine ⟨a :: bs, ReadAtMost.cons ra (by simp only [PyData.depth]; omega) b1, ?_⟩
    simp only [PyData.depth, PyData.shown]
    obtain ⟨l⟩ := vs
    cases l with
    | nil =>
      have e5 : RdzL h [] xs := e4
      cases e5
      simp only [PyData.shownAll, listText_nil]
      exact ReprK.listEmpty e1 e2 e3
    | cons z l => exact ReprK.list e1 e2 e3 na (by simpa using b2.length_eq) fun i u e => b2.item i u (by simpa using e)
  | _, _, .tup (a := a) (xs := xs) e1 e2 e3 e4, hs, hz => by
    have y : (tupleText (PyData.shownAll xs)).length ≤ sizeLine := by simpa only [PyData.shown] using hz
    obtain ⟨bs, b1, b2⟩ := RdzL.out e4 (by simpa [PyData.showable] using hs) fun t ht => Nat.le_trans (tupleText_mem_le ht) y
    obtain ⟨as, ra⟩ := Rdz.reads (.tup e1 e2 e3 e4)
    have na : a ∉ bs := not_mem_of_deeper ra (by simp only [PyData.depth]; omega) b1
    refine ⟨a :: bs, ReadAtMost.cons ra (by simp only [PyData.depth]; omega) b1, ?_⟩
    simp only [PyData.depth, PyData.shown]
    exact ReprK.tuple e1 e2 e3 na b2
  | _, _, .dct (a := a) (es := es) (kvs := kvs) e1 e2 e3 e6 e4 e5, hs, hz => by
    have y : (dictText (PyData.shownKv kvs)).length ≤ sizeLine := by simpa only [PyData.shown] using hz
    obtain ⟨s1, s2⟩ := PyData.showableKv_split kvs (by simpa [PyData.showable] using hs)
    obtain ⟨c1, b1, k1⟩ := RdzL.out e4 s1 fun t ht => let ⟨p, hp, hl⟩ := PyData.shownKv_key_le kvs t ht; Nat.le_trans hl (Nat.le_trans (dictText_mem_le hp) y)
    obtain ⟨c2, b2, k2⟩ := RdzL.out e5 s2 fun t ht => let ⟨p, hp, hl⟩ := PyData.shownKv_val_le kvs t ht; Nat.le_trans hl (Nat.le_trans (dictText_mem_le hp) y)
    obtain ⟨as, ra⟩ := Rdz.reads (.dct e1 e2 e3 e6 e4 e5)
    have bb : ReadAtMost h (PyData.depthKv kvs) (c1 ++ c2) := (b1.mono (PyData.depthAll_keys_le kvs)).append (b2.mono (PyData.depthAll_vals_le kvs))
    have na : a ∉ c1 ++ c2 := not_mem_of_deeper ra (by simp only [PyData.depth]; omega) bb
    refine ⟨a :: (c1 ++ c2), ReadAtMost.cons ra (by simp only [PyData.depth]; omega) bb, ?_⟩
    simp only [PyData.depth, PyData.shown, PyData.shownKv_eq]
    exact ReprK.dict e1 e2 e3 e6 na (ReprEntriesK.of_two es.toList _ _ (k1.more_le (fun b z => List.mem_append_left _ z) (PyData.depthAll_keys_le kvs)) (k2.more_le (fun b z => List.mem_append_right _ z) (PyData.depthAll_vals_le kvs)))
theorem RdzL.out : ∀ {vs : List Value} {ds : List PyData}, RdzL h vs ds → PyData.showableAll ds = true → (∀ t ∈ PyData.shownAll ds, t.length ≤ sizeLine) → ∃ bs, ReadAtMost h (PyData.depthAll ds) bs ∧ ReprAllK prog w bs h (PyData.depthAll ds) vs (PyData.shownAll ds)
  | _, _, .nil, _, _ => ⟨[], (fun _ z => nomatch z), by simp only [PyData.shownAll]; exact .nil⟩
  | _, _, .cons (d := d) (ds := ds) r rs, hs, hz => by
    have y : d.showable = true ∧ PyData.showableAll ds = true := by simpa [PyData.showableAll] using hs
    obtain ⟨c1, b1, k1⟩ := Rdz.out r y.1 (hz _ (by simp only [PyData.shownAll]; exact List.mem_cons_self ..))
    obtain ⟨c2, b2, k2⟩ := RdzL.out rs y.2 fun t ht => hz t (by simp only [PyData.shownAll]; exact List.mem_cons_of_mem _ ht)
    refine ⟨c1 ++ c2, fun b hm => ?_, ?_⟩
    · simp only [PyData.depthAll]
      rcases List.mem_append.mp hm with hm | hm
      · obtain ⟨d', as', r', l'⟩ := b1 b hm
        exact ⟨d', as', r', Nat.le_trans l' (Nat.le_max_left _ _)⟩
      · obtain ⟨d', as', r', l'⟩ := b2 b hm
        exact ⟨d', as', r', Nat.le_trans l' (Nat.le_max_right _ _)⟩
    · simp only [PyData.depthAll, PyData.shownAll]
      exact .cons ((k1.more fun b z => List.mem_append_left _ z).level_le (Nat.le_max_left _ _)) (k2.more_le (fun b z => List.mem_append_right _ z) (Nat.le_max_right _ _))
end
/-- repr(x) -/
theorem Rdz.repr {v : Value} {d : PyData} {s : Shared} {A : Around} {E : Value → Shared → Prop} {Q : Value → Shared → Prop} (r : Rdz s.heap v d) (hs : d.showable = true) (hg : A.guards = some []) (hu : A.units + (d.depth + 1) < cLine) (hz : d.shown.length ≤ sizeLine)
    (hQ : ∀ h' t tk, (∀ b o, s.heap.get? b = some o → h'.get? b = some o) → Q (.str d.shown t) { s with heap := h', toks := tk }) : wpAny (model prog w) A (call (.builtin "repr") [v]) Q E s := by
  have q0 := hQ s.heap s.toks (s.toks + 1) fun _ _ e => e
  have kk : ∀ b o, s.heap.get? b = some o → s.heap.get? b = some o := fun _ _ e => e
  have hg1 : A.in1.guards = some [] := hg
  have hu1 : A.in1.units + d.depth < cLine := by
    have : A.in1.units = A.units + 1 := rfl
    omega
  obtain ⟨as, ra⟩ := r.reads
  cases r with
  | non => exact PySem.P.repr_of_none q0
  | bl b => exact PySem.P.repr_of_bool q0
  | int i t => exact PySem.P.repr_of_int (of_decide_eq_true hs) q0
  | str x t => exact PySem.P.repr_of_str q0 hz
  | @lst a o vs n xs e1 e2 e3 e4 =>
    have y : (listText (PyData.shownAll xs)).length ≤ sizeLine := by simpa only [PyData.shown] using hz
    obtain ⟨bs, b1, b2⟩ := RdzL.out (prog := prog) (w := w) e4 (by simpa [PyData.showable] using hs) fun t ht => Nat.le_trans (listText_mem_le ht) y
    have na : a ∉ bs := not_mem_of_deeper ra (by simp only [PyData.depth]; omega) b1
    simp only [PyData.depth] at hu hu1
    simp only [PyData.shown] at hQ q0
    refine call_repr_slot (by omega) ⟨o, e1, e2⟩ F.slot_list_repr.toG ?_
    obtain ⟨l⟩ := vs
    cases l with
    | nil =>
      have e5 : RdzL s.heap [] xs := e4
      cases e5
      simp only [PyData.shownAll, listText_nil] at hQ
      exact call_list_repr_empty ⟨o, e1, e2⟩ e1 e3 ⟨_, _, rfl, hQ s.heap _ _ kk⟩
    | cons z l => exact call_list_reprK e1 e2 e3 na (by simpa using b2.length_eq) (fun i u e => b2.item i u (by simpa using e)) hg1 (fun b _ => Clear.nil b) hu1 kk (fun h' u tk k => ⟨_, _, rfl, hQ h' u tk k⟩) y
  | @tup a o vs n xs e1 e2 e3 e4 =>
    have y : (tupleText (PyData.shownAll xs)).length ≤ sizeLine := by simpa only [PyData.shown] using hz
    obtain ⟨bs, b1, b2⟩ := RdzL.out (prog := prog) (w := w) e4 (by simpa [PyData.showable] using hs) fun t ht => Nat.le_trans (tupleText_mem_le ht) y
    have na : a ∉ bs := not_mem_of_deeper ra (by simp only [PyData.depth]; omega) b1
    simp only [PyData.depth] at hu hu1
    simp only [PyData.shown] at hQ q0
    refine call_repr_slot (by omega) ⟨o, e1, e2⟩ F.slot_tuple_repr ?_
    exact call_tuple_reprK e1 e2 e3 na b2 hg1 (fun b _ => Clear.nil b) hu1 kk (fun h' u tk k => ⟨_, _, rfl, hQ h' u tk k⟩) y
  | @dct a o es n kvs e1 e2 e3 e6 e4 e5 =>
    have y : (dictText (PyData.shownKv kvs)).length ≤ sizeLine := by simpa only [PyData.shown] using hz
    obtain ⟨s1, s2⟩ := PyData.showableKv_split kvs (by simpa [PyData.showable] using hs)
    obtain ⟨c1, b1, k1⟩ := RdzL.out (prog := prog) (w := w) e4 s1 fun t ht => let ⟨p, hp, hl⟩ := PyData.shownKv_key_le kvs t ht; Nat.le_trans hl (Nat.le_trans (dictText_mem_le hp) y)
    obtain ⟨c2, b2, k2⟩ := RdzL.out (prog := prog) (w := w) e5 s2 fun t ht => let ⟨p, hp, hl⟩ := PyData.shownKv_val_le kvs t ht; Nat.le_trans hl (Nat.le_trans (dictText_mem_le hp) y)
    have bb : ReadAtMost s.heap (PyData.depthKv kvs) (c1 ++ c2) := (b1.mono (PyData.depthAll_keys_le kvs)).append (b2.mono (PyData.depthAll_vals_le kvs))
    have na : a ∉ c1 ++ c2 := not_mem_of_deeper ra (by simp only [PyData.depth]; omega) bb
    simp only [PyData.depth] at hu hu1
    simp only [PyData.shown, PyData.shownKv_eq] at hQ q0
    refine call_repr_slot (by omega) ⟨o, e1, e2⟩ F.slot_dict_repr ?_
    exact call_dict_reprK e1 e2 e3 e6 na (ReprEntriesK.of_two es.toList _ _ (k1.more_le (fun b z => List.mem_append_left _ z) (PyData.depthAll_keys_le kvs)) (k2.more_le (fun b z => List.mem_append_right _ z) (PyData.depthAll_vals_le kvs))) hg1 (fun b _ => Clear.nil b) hu1 kk
      (fun h' u tk k => ⟨_, _, rfl, hQ h' u tk k⟩) (by rw [← PyData.shownKv_eq]; exact y)
end
end Bx
/-! Bx31: repr of D -/
namespace Bx
open PySem PySem.Spec L2
mutual
/-- data as repr sees it -/
def pyr : D → PyData
  | .non => .none
  | .bl b => .bool b
  | .int i => .int i
  | .str s => .str s
  | .tup l => .tuple (pyrs l)
  | .lst l => .list (pyrs l)
  | .dct l => .dict (pyrk l)
  | _ => .none
def pyrs : List D → List PyData
  | [] => []
  | d :: ds => pyr d :: pyrs ds
def pyrk : List (D × D) → List (PyData × PyData)
  | [] => []
  | (k, d) :: ds => (pyr k, pyr d) :: pyrk ds
end
mutual
def rp : D → Bool
  | .non => true
  | .bl _ => true
  | .int _ => true
  | .str _ => true
  | .tup l => rps l
  | .lst l => rps l
  | .dct l => rpk l
  | _ => false
def rps : List D → Bool
  | [] => true
  | d :: ds => rp d && rps ds
def rpk : List (D × D) → Bool
  | [] => true
  | (_, d) :: ds => rp d && rpk ds
end
section
variable {X : Cx} {pins : List (Addr × Obj)} {σ : St} {H : Hp} {s : Shared} {W : Wd}
theorem pyr_key (k : Key) {v : Value} (h : (mixKind X.prog X.w).is k v = true) : Rdz s.heap v (pyr (keyD k)) := by
  rcases keyIs_shape h with ⟨i, t, rfl, rfl⟩ | ⟨x, t, rfl, rfl⟩
  · exact .int _ _
  · exact .str _ _
theorem pyr_kV (k : Key) {u : Value} (h : RelV (kV k) u) : Rdz s.heap u (pyr (keyD k)) := by
  cases k with
  | inl i => obtain ⟨t, rfl⟩ := h; exact .int _ _
  | inr x => obtain ⟨t, rfl⟩ := h; exact .str _ _
theorem pyr_kVs : ∀ (ks : List Key) {us : List Value}, Vals (ks.map kV) us → RdzL s.heap us (pyrs (ks.map keyD))
  | [], _, h => by cases h; exact .nil
  | k :: ks, _, h => by
    cases h with
    | cons a b => exact .cons (pyr_kV k a) (pyr_kVs ks b)
mutual
theorem rep_rdz (hK : X.K = W.K) (I : Inv X pins σ H s) : ∀ {v : V} {d : D} {u : Value}, Rep W H v d → rp d = true → RelV v u → Rdz s.heap u (pyr d)
  | _, _, _, .non, _, r => by cases r; exact .non
  | _, _, _, .bl b, _, r => by cases r; exact .bl b
  | _, _, _, .int i, _, r => by obtain ⟨t, rfl⟩ := r; exact .int _ _
  | _, _, _, .str x, _, r => by obtain ⟨t, rfl⟩ := r; exact .str _ _
  | _, _, _, .lst a b, h, r => by
    cases r
    obtain ⟨its, rv, ⟨o, n, ho, hc, _, hd⟩, _⟩ := I.list (sqL_of a)
    exact .lst ho hc hd (reps_rdz hK I b h rv)
  | _, _, _, .tup a b, h, r => by
    cases r
    obtain ⟨its, rv, ⟨o, ho, hc, n, hd⟩, _⟩ := I.tuple (by rw [hK]; exact a)
    exact .tup ho hc hd (reps_rdz hK I b h rv)
  | _, _, _, .dctK (kvs := kvs) a b, h, r => by
    cases r
    obtain ⟨_, y, vs, rk, o, es, ep, ho, hx, hd, _, hp, _⟩ := (show ObjOk X.prog X.w H s.heap _ (.dK kvs) from I.hok _ _ a)
    obtain ⟨q1, q2⟩ := repk_rdz hK I b h rk hp
    exact .dct ho hx.1 hd y q1 q2
  | _, _, _, .dctT (kvs := kvs) a b, h, r => by
    cases r
    obtain ⟨_, y, xs, rk, o, es, ep, ho, hx, hd, he, _⟩ := (show ObjOk X.prog X.w H s.heap _ (.dT kvs) from I.hok _ _ a)
    obtain ⟨q1, q2⟩ := rept_rdz hK I b h rk
    refine .dct ho hx.1 hd y ?_ ?_
    · rw [he, List.map_map]; exact q1
    · rw [he, List.map_map]; exact q2
  | _, _, _, .scr _, h, _ => by cases h
  | _, _, _, .draw, h, _ => by cases h
  | _, _, _, .fn _, h, _ => by cases h
  | _, _, _, .cls _, h, _ => by cases h
  | _, _, _, .exc0 _ _, h, _ => by cases h
  | _, _, _, .exc1 _ _ _ _, h, _ => by cases h
theorem reps_rdz (hK : X.K = W.K) (I : Inv X pins σ H s) : ∀ {vs : List V} {ds : List D} {us : List Value}, RepL W H vs ds → rps ds = true → Vals vs us → RdzL s.heap us (pyrs ds)
  | _, _, _, .nil, _, r => by cases r; exact .nil
  | _, _, _, .cons (d := d) (ds := ds) a b, h, r => by
    have h' : rp d = true ∧ rps ds = true := by simpa [rps] using h
    cases r with
    | cons r1 r2 => exact .cons (rep_rdz hK I a h'.1 r1) (reps_rdz hK I b h'.2 r2)
theorem repk_rdz (hK : X.K = W.K) (I : Inv X pins σ H s) : ∀ {kvs : List (Key × V)} {ds : List (D × D)} {us : List (Key × Value)} {es : List DictEntry}, RepK W H kvs ds → rpk ds = true → KV kvs us → Pairs (mixKind X.prog X.w) es us →
    RdzL s.heap (es.map fun e => e.key) ((pyrk ds).map fun p => p.1) ∧ RdzL s.heap (es.map fun e => e.val) ((pyrk ds).map fun p => p.2)
  | _, _, _, _, .nil, _, r, p => by
    cases r
    cases p
    exact ⟨.nil, .nil⟩
  | _, _, _, _, .cons (k := k) (d := d) (ds := ds) a b, h, r, p => by
    have h' : rp d = true ∧ rpk ds = true := by simpa [rpk] using h
    cases r with
    | cons r1 r2 =>
      cases p with
      | cons p1 p2 p3 =>
        obtain ⟨e, rv⟩ := r1
        have e : k = _ := e
        subst e
        obtain ⟨q1, q2⟩ := repk_rdz hK I b h'.2 r2 p3
        refine ⟨.cons (pyr_key _ p1) q1, .cons ?_ q2⟩
        have rv' := rep_rdz hK I a h'.1 rv
        rw [← p2] at rv'
        exact rv'
theorem rept_rdz (hK : X.K = W.K) (I : Inv X pins σ H s) : ∀ {kvs : List (List Key × V)} {ds : List (D × D)} {xs : List (List Key × Addr × Value)}, RepT W H kvs ds → rpk ds = true →
    Paired (fun (p : List Key × V) (q : List Key × Addr × Value) => p.1 = q.1 ∧ H q.2.1 = some (.tup (p.1.map kV)) ∧ RelV p.2 q.2.2) kvs xs →
    RdzL s.heap (xs.map ((fun e : DictEntry => e.key) ∘ entryOfKey (tupleKind (mixKind X.prog X.w)))) ((pyrk ds).map fun p => p.1) ∧ RdzL s.heap (xs.map ((fun e : DictEntry => e.val) ∘ entryOfKey (tupleKind (mixKind X.prog X.w)))) ((pyrk ds).map fun p => p.2)
  | _, _, _, .nil, _, r => by cases r; exact ⟨.nil, .nil⟩
  | _, _, _, .cons (k := k) (d := d) (ds := ds) a b, h, r => by
    have h' : rp d = true ∧ rpk ds = true := by simpa [rpk] using h
    cases r with
    | cons r1 r2 =>
      obtain ⟨e, e2, rv⟩ := r1
      obtain ⟨q1, q2⟩ := rept_rdz hK I b h'.2 r2
      have e : k = _ := e
      subst e
      obtain ⟨_, its, rv2, o, ho, hc, n, hd⟩ := (show ObjOk X.prog X.w H s.heap _ (.tup _) from I.hok _ _ e2)
      exact ⟨.cons (.tup ho hc hd (pyr_kVs _ rv2)) q1, .cons (rep_rdz hK I a h'.1 rv) q2⟩
end
end
/-- repr, dicts let -/
def reprD (m : M) : R M := if rp m.toD && (pyr m.toD).showable && decide ((pyr m.toD).depth ≤ 60) && decide ((pyr m.toD).shown.length ≤ sz) then .ret (.fz (.str (pyr m.toD).shown)) else .bad
theorem reprD_one (m : M) : isRet (reprD m) = true := by
  unfold reprD
  split <;> rfl
theorem reprD_ret : ∀ l, isRet (arg1 reprD l) = true := arg1_ret reprD_one
theorem blt_reprD {X : Cx} {W : Wd} (hK : X.K = W.K) (hu : X.A.units + 65 < cLine) (hg : X.A.guards = some []) : CallR X (.builtin "repr") (RMn W (arg1 reprD)) := by
  intro pins s σ H xs us Q I rx h
  obtain ⟨F, A1, ms, st, rm, z, ez, q⟩ := h
  unfold arg1 at ez
  split at ez
  · rename_i m
    have rm' := rm.rep st.fh
    cases rm with
    | cons r1 rn =>
      cases rn
      obtain ⟨u, rfl, ru⟩ := rx.one
      unfold reprD at ez
      split at ez
      · rename_i hc
        cases ez
        simp only [Bool.and_eq_true, decide_eq_true_eq] at hc
        have hr := rep_rdz hK I (r1.rep st.fh) hc.1.1.1 ru
        have hsz : (pyr m.toD).shown.length ≤ sizeLine := sz_line hc.2
        exact hr.repr hc.1.1.2 hg (by have := hc.1.2; omega) hsz fun h' u tk k => ⟨.str _, H, I.kept (t' := tk) k, ⟨_, rfl⟩, q _ F H [] (Grow.refl st) (.fz (.str _)) (fun _ z => absurd z (by simp)) List.nodup_nil⟩
      · cases ez
  · cases ez
end Bx
namespace Bx
open PySem PySem.Spec L2
def top (i : Nat) : Stmt := PySem.Challenge.pw_boxparts_k00_errors_of_all_parts.main.body.getD i (.Pass ⟨0, 0, 0, 0⟩)
def f__law_take : List D → R M
  | [.draw, .int n] => .take n fun i => .ret (.fz (.int i))
  | _ => .bad
def sub_BadSpread : List Bool := [false, false, false, false, false, false, false, false, false, false, false, false, false, false, false, false, false, false, true, false, false, false, false, false, false, false, false, false]
def sub_BoxError : List Bool := [true, true, true, true, true, true, true, true, true, true, true, true, true, true, true, true, true, true, true, true, true, true, true, true, true, true, true, true]
def sub_NotHere : List Bool := [false, false, false, false, false, false, false, false, false, false, false, false, false, false, false, false, false, false, false, false, true, false, false, false, false, false, false, false]
def sub_BadRows : List Bool := [false, false, false, false, false, false, false, false, false, false, false, false, false, false, false, true, false, false, false, false, false, false, false, false, false, false, false, false]
def sub_NothingLeft : List Bool := [false, false, false, false, false, false, false, false, false, false, false, false, false, false, false, false, false, false, false, false, false, false, false, false, false, false, false, true]
def sub_NotAlike : List Bool := [false, false, false, false, false, false, false, false, false, false, false, false, false, false, false, false, false, false, false, false, false, true, false, false, false, false, false, false]
def sub_BadFilling : List Bool := [false, false, false, false, false, true, false, false, false, false, false, false, false, false, false, false, false, false, false, false, false, false, false, false, false, false, false, false]
def sub_BadText : List Bool := [false, false, false, false, false, false, false, false, false, false, false, false, false, false, false, false, false, false, false, false, false, false, false, false, false, true, false, false]
def sub_NotTold : List Bool := [false, false, false, false, false, false, false, false, false, false, false, false, false, true, false, false, false, false, false, false, false, false, false, false, false, false, false, false]
def sub_BadNumber : List Bool := [false, false, true, false, false, false, false, false, false, false, false, false, false, false, false, false, false, false, false, false, false, false, false, false, false, false, false, false]
def sub_BadCourse : List Bool := [false, false, false, false, false, false, false, false, false, false, false, true, false, false, false, false, false, false, false, false, false, false, false, false, false, false, false, false]
def sub_BadWay : List Bool := [false, false, false, false, false, false, false, false, false, false, false, false, false, false, false, false, true, false, false, false, false, false, false, false, false, false, false, false]
def sub_BadPowers : List Bool := [false, false, false, false, false, false, false, false, false, false, true, false, false, false, false, false, false, false, false, false, false, false, false, false, false, false, false, false]
def sub_BadWord : List Bool := [false, false, false, false, false, false, false, false, true, false, false, false, false, false, false, false, false, false, false, false, false, false, false, false, false, false, false, false]
def sub_BadDeed : List Bool := [false, false, false, false, false, false, false, false, false, false, false, false, false, false, false, false, false, false, false, false, false, false, true, false, false, false, false, false]
def sub_BadSum : List Bool := [false, false, false, false, false, false, false, true, false, false, false, false, false, false, false, false, false, false, false, false, false, false, false, false, false, false, false, false]
def sub_BadBox : List Bool := [false, false, false, false, true, false, false, false, false, false, false, false, false, false, false, false, false, false, false, false, false, false, false, false, false, false, false, false]
def sub_NotFree : List Bool := [false, false, false, false, false, false, false, false, false, false, false, false, true, false, false, false, false, false, false, false, false, false, false, false, false, false, false, false]
def sub_BadPrime : List Bool := [false, true, false, false, false, false, false, false, false, false, false, false, false, false, false, false, false, false, false, false, false, false, false, false, false, false, false, false]
def sub_BadName : List Bool := [false, false, false, false, false, false, false, false, false, false, false, false, false, false, false, false, false, false, false, false, false, false, false, false, true, false, false, false]
def sub_TooMany : List Bool := [false, false, false, false, false, false, false, false, false, true, false, false, false, false, false, false, false, false, false, false, false, false, false, false, false, false, false, false]
def sub_BadCell : List Bool := [false, false, false, false, false, false, false, false, false, false, false, false, false, false, false, false, false, false, false, true, false, false, false, false, false, false, false, false]
def sub_NoWatch : List Bool := [false, false, false, false, false, false, false, false, false, false, false, false, false, false, false, false, false, false, false, false, false, false, false, false, false, false, true, false]
def sub_BadLines : List Bool := [false, false, false, false, false, false, false, false, false, false, false, false, false, false, false, false, false, true, false, false, false, false, false, false, false, false, false, false]
def sub_BadActing : List Bool := [false, false, false, false, false, false, false, false, false, false, false, false, false, false, true, false, false, false, false, false, false, false, false, false, false, false, false, false]
def sub_BadShape : List Bool := [false, false, false, true, false, false, false, false, false, false, false, false, false, false, false, false, false, false, false, false, false, false, false, false, false, false, false, false]
def sub_BadLive : List Bool := [false, false, false, false, false, false, false, false, false, false, false, false, false, false, false, false, false, false, false, false, false, false, false, true, false, false, false, false]
def sub_BadOrder : List Bool := [false, false, false, false, false, false, true, false, false, false, false, false, false, false, false, false, false, false, false, false, false, false, false, false, false, false, false, false]
def sub_ValueError : List Bool := [true, true, true, true, true, true, true, true, true, true, true, true, true, true, true, true, true, true, true, true, true, true, true, true, true, true, true, true]
def ok_name (n : Nat) : Bool := [26].contains n
def ok_at (n : Nat) : Bool := [25].contains n
def ok_part (n : Nat) : Bool := [2, 14].contains n
def ok_most (n : Nat) : Bool := [9].contains n
def okE (n : Nat) : Bool := decide (n < 28)
abbrev st__law_begun : Stmt := top 30
abbrev N__law_begun : List Str := ["_law_script", "_law_large", "_law_grain"]
def m__law_begun : XS := sC (sS 1 (xM [2] (.nm 2) (iScr (xV true 0)) (tV (xO (cmpM .ge) (xB (arg1 absM) (eC (xV true 2) (eN))) (xO (opM .pow) (xC (.int 10)) (xC (.int 18))))) (xO (opM .sub) (xB (arg1 absM) (eC (xV true 2) (eN))) (xO (opM .pow) (xC (.int 10)) (xC (.int 18))))))
    (sC (sZ [1] (sR (xD ["large", "rest", "cells", "turn"] (eC (xV false 1) (eC (xC (.int 0)) (eC (xM [2] (.nm 2) (iScr (xV true 0)) (tY) (xB (arg1 absM) (eC (xV true 2) (eN)))) (eC (xC (.int 0)) (eN))))))))
    (sN))
def f__law_begun : List D → R M := fnR 3 m__law_begun
abbrev st__law_mixed : Stmt := top 31
abbrev N__law_mixed : List Str := ["_law_draw", "_law_great", "_law_turn", "_law_found", "_law_blend", "_law_grain"]
def m__law_mixed : XS := sC (sP2 2 3 (xB (arg1 intF) (eC (xO dgetM (xV true 0) (xC (.str "turn"))) (eN))) (xC (.int 0)))
    (sC (sF none (.nm 1) (iV (xL (eC (xC (.int 2147483629)) (eC (xC (.int 2147483587)) (eC (xC (.int 2147483579)) (eN)))))) (sC (sS 4 (xO (opM .mod) (xO (opM .add) (xO (opM .mul) (xV true 2) (xC (.int 69621))) (xO (opM .fdiv) (xV true 1) (xC (.int 7)))) (xV true 1)))
    (sC (sF none (.nm 5) (iV (xO dgetM (xV true 0) (xC (.str "cells")))) (sC (sS 4 (xO (opM .mod) (xO (opM .add) (xO (opM .mul) (xV true 4) (xC (.int 48271))) (xB (arg1 intF) (eC (xV true 5) (eN)))) (xV true 1)))
    (sN)))
    (sC (sS 3 (xO (opM .add) (xO (opM .mul) (xV true 3) (xC (.int 2147483647))) (xO (opM .mod) (xO (opM .pow) (xV true 4) (xC (.int 5))) (xV true 1))))
    (sN)))))
    (sC (sRV 3)
    (sN)))
abbrev st__law_kinds : Stmt := top 35
abbrev N__law_kinds : List Str := ["_law_error", "_law_found"]
def m__law_kinds : XS := sC (sS 1 (xL (eN)))
    (sC (sS 1 (xO (opM .add) (xV true 1) (xL (eC (xU (isoM sub_BadPrime) (xV true 0)) (eC (xU (isoM sub_BadShape) (xV true 0)) (eC (xU (isoM sub_BadBox) (xV true 0)) (eN)))))))
    (sC (sS 1 (xO (opM .add) (xV true 1) (xL (eC (xU (isoM sub_BadFilling) (xV true 0)) (eC (xU (isoM sub_BadOrder) (xV true 0)) (eC (xU (isoM sub_BadSum) (xV true 0)) (eN)))))))
    (sC (sS 1 (xO (opM .add) (xV true 1) (xL (eC (xU (isoM sub_BadWord) (xV true 0)) (eC (xU (isoM sub_BadPowers) (xV true 0)) (eC (xU (isoM sub_BadCourse) (xV true 0)) (eN)))))))
    (sC (sS 1 (xO (opM .add) (xV true 1) (xL (eC (xU (isoM sub_NotFree) (xV true 0)) (eC (xU (isoM sub_NotTold) (xV true 0)) (eC (xU (isoM sub_BadRows) (xV true 0)) (eN)))))))
    (sC (sS 1 (xO (opM .add) (xV true 1) (xL (eC (xU (isoM sub_BadWay) (xV true 0)) (eC (xU (isoM sub_BadLines) (xV true 0)) (eC (xU (isoM sub_BadSpread) (xV true 0)) (eN)))))))
    (sC (sS 1 (xO (opM .add) (xV true 1) (xL (eC (xU (isoM sub_BadCell) (xV true 0)) (eC (xU (isoM sub_NotHere) (xV true 0)) (eC (xU (isoM sub_NotAlike) (xV true 0)) (eN)))))))
    (sC (sS 1 (xO (opM .add) (xV true 1) (xL (eC (xU (isoM sub_BadDeed) (xV true 0)) (eC (xU (isoM sub_BadLive) (xV true 0)) (eC (xU (isoM sub_BadName) (xV true 0)) (eN)))))))
    (sC (sS 1 (xO (opM .add) (xV true 1) (xL (eC (xU (isoM sub_NothingLeft) (xV true 0)) (eC (xU (isoM sub_BadNumber) (xV true 0)) (eC (xU (isoM sub_TooMany) (xV true 0)) (eN)))))))
    (sC (sS 1 (xO (opM .add) (xV true 1) (xL (eC (xU (isoM sub_BadActing) (xV true 0)) (eC (xU (isoM sub_BadText) (xV true 0)) (eC (xU (isoM sub_NoWatch) (xV true 0)) (eN)))))))
    (sC (sRV 1)
    (sN)))))))))))
def f__law_kinds : List D → R M := fnR 2 m__law_kinds
abbrev st__law_plain_errors : Stmt := top 36
abbrev N__law_plain_errors : List Str := ["_law_words_here", "_law_found"]
def m__law_plain_errors : XS := sC (sS 1 (xL (eN)))
    (sC (sS 1 (xO (opM .add) (xV true 1) (xL (eC (xEp 1 (xV true 0)) (eC (xEp 3 (xV true 0)) (eC (xEp 4 (xV true 0)) (eC (xEp 5 (xV true 0)) (eN))))))))
    (sC (sS 1 (xO (opM .add) (xV true 1) (xL (eC (xEp 6 (xV true 0)) (eC (xEp 7 (xV true 0)) (eC (xEp 8 (xV true 0)) (eC (xEp 10 (xV true 0)) (eN))))))))
    (sC (sS 1 (xO (opM .add) (xV true 1) (xL (eC (xEp 11 (xV true 0)) (eC (xEp 12 (xV true 0)) (eC (xEp 13 (xV true 0)) (eC (xEp 15 (xV true 0)) (eN))))))))
    (sC (sS 1 (xO (opM .add) (xV true 1) (xL (eC (xEp 16 (xV true 0)) (eC (xEp 17 (xV true 0)) (eC (xEp 18 (xV true 0)) (eC (xEp 19 (xV true 0)) (eN))))))))
    (sC (sS 1 (xO (opM .add) (xV true 1) (xL (eC (xEp 20 (xV true 0)) (eC (xEp 21 (xV true 0)) (eC (xEp 22 (xV true 0)) (eC (xEp 23 (xV true 0)) (eN))))))))
    (sC (sS 1 (xO (opM .add) (xV true 1) (xL (eC (xEp 24 (xV true 0)) (eC (xEp 27 (xV true 0)) (eN))))))
    (sC (sRV 1)
    (sN))))))))
def f__law_plain_errors : List D → R M := fnR 2 m__law_plain_errors
abbrev st__law_errors_of : Stmt := top 37
abbrev N__law_errors_of : List Str := ["_law_each", "_law_found"]
def m__law_errors_of : XS := sC (sS 1 (xL (eN)))
    (sC (sZ [0] (appR 1 (xT (eC (xEf 2 (xV false 0)) (eC (xU (attM ok_part) (xEf 2 (xV false 0))) (eC (xU (attM ok_part) (xEf 2 (xV false 0))) (eN)))))))
    (sC (sZ [0] (appR 1 (xT (eC (xEf 9 (xV false 0)) (eC (xU (attM ok_most) (xEf 9 (xV false 0))) (eC (xU (attM ok_most) (xEf 9 (xV false 0))) (eN)))))))
    (sC (sZ [0] (appR 1 (xT (eC (xEf 14 (xV false 0)) (eC (xU (attM ok_part) (xEf 14 (xV false 0))) (eC (xU (attM ok_part) (xEf 14 (xV false 0))) (eN)))))))
    (sC (sZ [0] (appR 1 (xT (eC (xEf 25 (xV false 0)) (eC (xU (attM ok_at) (xEf 25 (xV false 0))) (eC (xU (attM ok_at) (xEf 25 (xV false 0))) (eN)))))))
    (sC (sZ [0] (appR 1 (xT (eC (xEf 26 (xV false 0)) (eC (xU (attM ok_name) (xEf 26 (xV false 0))) (eC (xU (attM ok_name) (xEf 26 (xV false 0))) (eN)))))))
    (sC (sRV 1)
    (sN)))))))
def f__law_errors_of : List D → R M := fnR 2 m__law_errors_of
abbrev st__law_pick : Stmt := top 33
abbrev N__law_pick : List Str := ["_law_draw", "_law_some"]
def m__law_pick : XS := sC (sZ [0] (sR (xI false (xV true 1) (xF f__law_take 2 (eC (xV false 0) (eC (xB (arg1 lenM) (eC (xV true 1) (eN))) (eN)))))))
    (sN)
def f__law_pick : List D → R M := fnR 2 m__law_pick
abbrev st__law_any : Stmt := top 34
abbrev N__law_any : List Str := ["_law_draw", "_law_some"]
def m__law_any : XS := sC (sS 1 (xL (eC (xC .non) (eC (xC (.bl false)) (eC (xU negM (xC (.int 5))) (eC (xO (opM .pow) (xC (.int 10)) (xC (.int 45))) (eC (xC (.str "")) (eC (xC (.str "wide")) (eC (xC (.str "two words")) (eC (xL (eN)) (eC (xL (eC (xT (eC (xC (.int 0)) (eC (xC (.int 2)) (eN)))) (eN))) (eC (xT (eN)) (eC (xT (eC (xC (.int 4)) (eN))) (eC (xD0) (eC (xD ["a"] (eC (xT (eC (xC (.int 1)) (eN))) (eN))) (eC (xL (eC (xL (eC (xC .non) (eN))) (eN))) (eN)))))))))))))))))
    (sC (sZ [0, 1] (sR (xF f__law_pick 2 (eC (xV false 0) (eC (xV false 1) (eN))))))
    (sN))
def f__law_any : List D → R M := fnR 2 m__law_any
abbrev st_law : Stmt := top 38
abbrev N_law : List Str := ["_law_script", "_law_draw", "_law_threes_here", "_law_errors_here", "_law_base_here", "_law_words_here", "_law_each", "_law_spot", "_law_error", "_law_item", "_law_k"]
def m_law : XS := sC (sZ [1] (sT [.nm 5, .nm 6] (xT (eC (xF f__law_pick 2 (eC (xV false 1) (eC (xL (eC (xC (.str "")) (eC (xC (.str "w")) (eC (xC (.str "nothing of the kind")) (eN))))) (eN)))) (eC (xF f__law_any 1 (eC (xV false 1) (eN))) (eN))))))
    (sC (sZ [6] (sS 2 (xF f__law_errors_of 1 (eC (xV false 6) (eN)))))
    (sC (sZ [5] (sS 3 (xO (opM .add) (xF f__law_plain_errors 1 (eC (xV false 5) (eN))) (xM [9] (.nm 9) (iV (xV true 2)) (tY) (xI false (xV true 9) (xC (.int 0)))))))
    (sC (sZ [3] (sF (some 3) (.tp [.nm 7, .nm 8]) (iE (xV false 3)) (sC (sZ [8] (sI (tV (xO (cmpM .ne) (xF f__law_kinds 1 (eC (xV false 8) (eN))) (xM [10] (.nm 10) (iR1 (xC (.int 27))) (tY) (xO (cmpM .eq) (xV true 10) (xV true 7))))) (sC (sR (xC (.bl false)))
    (sN)) (sN)))
    (sC (sI (tOr (tNot (tV (xU (isoM sub_BoxError) (xV true 8)))) (tNot (tV (xU (isbM sub_ValueError) (xV true 8))))) (sC (sR (xC (.bl false)))
    (sN)) (sN))
    (sN)))))
    (sC (sZ [6] (sI (tV (xO (cmpM .ne) (xM [9] (.nm 9) (iV (xV true 2)) (tV (xO (cmpM .ne) (xB (arg1 reprD) (eC (xL (eC (xI false (xV true 9) (xC (.int 1))) (eC (xI false (xV true 9) (xC (.int 2))) (eN)))) (eN))) (xB (arg1 reprD) (eC (xL (eC (xV false 6) (eC (xV false 6) (eN)))) (eN))))) (xC (.int 1))) (xL (eN)))) (sC (sR (xC (.bl false)))
    (sN)) (sN)))
    (sC (sS 4 (xEp 0 (xC (.str "w"))))
    (sC (sZ [4] (sR (xAnd (xO (cmpM .nmem) (xC (.bl true)) (xF f__law_kinds 1 (eC (xV false 4) (eN)))) (xOne (xU (isbM sub_ValueError) (xV true 4))))))
    (sN)))))))
theorem sc__law_begun : FnScope N__law_begun ["_law_script"] (defScope st__law_begun) := ⟨rfl, rfl, rfl, by decide +kernel, rfl, by decide +kernel, by decide +kernel⟩
theorem sc__law_mixed : FnScope N__law_mixed ["_law_draw"] (defScope st__law_mixed) := ⟨rfl, rfl, rfl, by decide +kernel, rfl, by decide +kernel, by decide +kernel⟩
theorem sc__law_kinds : FnScope N__law_kinds ["_law_error"] (defScope st__law_kinds) := ⟨rfl, rfl, rfl, by decide +kernel, rfl, by decide +kernel, by decide +kernel⟩
theorem sc__law_plain_errors : FnScope N__law_plain_errors ["_law_words_here"] (defScope st__law_plain_errors) := ⟨rfl, rfl, rfl, by decide +kernel, rfl, by decide +kernel, by decide +kernel⟩
theorem sc__law_errors_of : FnScope N__law_errors_of ["_law_each"] (defScope st__law_errors_of) := ⟨rfl, rfl, rfl, by decide +kernel, rfl, by decide +kernel, by decide +kernel⟩
theorem sc__law_pick : FnScope N__law_pick ["_law_draw", "_law_some"] (defScope st__law_pick) := ⟨rfl, rfl, rfl, by decide +kernel, rfl, by decide +kernel, by decide +kernel⟩
theorem sc__law_any : FnScope N__law_any ["_law_draw"] (defScope st__law_any) := ⟨rfl, rfl, rfl, by decide +kernel, rfl, by decide +kernel, by decide +kernel⟩
theorem sc_law : FnScope N_law ["_law_script"] (defScope st_law) := ⟨rfl, rfl, rfl, by decide +kernel, rfl, by decide +kernel, by decide +kernel⟩
end Bx
namespace Bx
open PySem PySem.Spec L2
section
variable {W : Wd} {P : Program} {w : World} {K : PySem.W.Frag} {mg : Str → Option Value} {base : Heap} {g : Bool} (hK : K = W.K)
include hK
theorem p__law_begun {k : Nat} {f : Addr} {cdv : Value} (L : LkF K mg "_law_begun" st__law_begun f cdv) (g_abs : mg "abs" = none) : FnC W P w K mg base false (k + 1) "_law_begun" f ["_law_script"] [] f__law_begun :=
  mk_fn (N := N__law_begun) (r := m__law_begun) hK L sc__law_begun (fun _ _ _ _ _ us hl => match us, hl with | [_], _ => rfl) (fun q hq => absurd hq (by simp)) fun E A outer s H o => by
  have S := sc__law_begun
  exact s_c ((by first | exact s_s 1 S.nd (w_comp o [("_law_grain", 2)] S.nd (i_scr o (w_var 0)) (by rfl) (fun s H C cl fp => have ob := o.blk (s := s) (H := H) (fp := fp); ⟨g_n 2 S.nd, c_1 (t_cmp ob .ge (w_bltB ob "abs" blt_abs (bltM_ret .abs) g_abs (a_c (w_var 2) (a_n))) (w_op ob .pow (w_int) (w_int))), w_op ob .sub (w_bltB ob "abs" blt_abs (bltM_ret .abs) g_abs (a_c (w_var 2) (a_n))) (w_op ob .pow (w_int) (w_int))⟩)) | exact s_sc o 1 [("_law_grain", 2)] S.nd (i_scr o (w_var 0)) (by rfl) (fun s H C cl fp => have ob := o.blk (s := s) (H := H) (fp := fp); ⟨g_n 2 S.nd, c_1 (t_cmp ob .ge (w_bltB ob "abs" blt_abs (bltM_ret .abs) g_abs (a_c (w_var 2) (a_n))) (w_op ob .pow (w_int) (w_int))), w_op ob .sub (w_bltB ob "abs" blt_abs (bltM_ret .abs) g_abs (a_c (w_var 2) (a_n))) (w_op ob .pow (w_int) (w_int))⟩)))
    (s_c (s_z [1] (s_r (w_dsp o (d_c (w_var 1) (d_c (w_int) (d_c (w_comp o [("_law_grain", 2)] S.nd (i_scr o (w_var 0)) (by rfl) (fun s H C cl fp => have ob := o.blk (s := s) (H := H) (fp := fp); ⟨g_n 2 S.nd, c_n, w_bltB ob "abs" blt_abs (bltM_ret .abs) g_abs (a_c (w_var 2) (a_n))⟩)) (d_c (w_int) (d_n))))))))
    (s_n))
theorem p__law_mixed {k : Nat} {f : Addr} {cdv : Value} {E : XK} {A : Around} {outer : List Env} {s : Shared} {H : Hp} (g_int : mg "int" = none) (o : Ok (cxOf (L2.CX P w) P w K mg base N__law_mixed "_law_mixed" (defScope st__law_mixed) f cdv A outer s H E) W (Wk0 E) k false) :
    PSs (cxOf (L2.CX P w) P w K mg base N__law_mixed "_law_mixed" (defScope st__law_mixed) f cdv A outer s H E) ((defBody st__law_mixed).drop 1) (ST W E m__law_mixed) := by
  have S := sc__law_mixed
  exact s_c (s_p2 o 2 3 S.nd (w_bltT o "int" blt_int (bltM_ret .int) g_int (a_c (w_dg o (w_var 0) (w_str)) (a_n))) (w_int))
    (s_c (s_f o none (passes_of rfl) (i_v o (w_lst (a_c (w_int) (a_c (w_int) (a_c (w_int) (a_n)))))) (g_n 1 S.nd) (s_c (s_s 4 S.nd (w_op o .mod (w_op o .add (w_op o .mul (w_var 2) (w_int)) (w_op o .fdiv (w_var 1) (w_int))) (w_var 1)))
    (s_c (s_f o none (passes_of rfl) (i_v o (w_dg o (w_var 0) (w_str))) (g_n 5 S.nd) (s_c (s_s 4 S.nd (w_op o .mod (w_op o .add (w_op o .mul (w_var 4) (w_int)) (w_bltT o "int" blt_int (bltM_ret .int) g_int (a_c (w_var 5) (a_n)))) (w_var 1)))
    (s_n)))
    (s_c (s_s 3 S.nd (w_op o .add (w_op o .mul (w_var 3) (w_int)) (w_op o .mod (w_op o .pow (w_var 4) (w_int)) (w_var 1))))
    (s_n)))))
    (s_c (s_rv 3)
    (s_n)))
theorem p__law_kinds {k : Nat} {f : Addr} {cdv : Value} (L : LkF K mg "_law_kinds" st__law_kinds f cdv) (g_isinstance : mg "isinstance" = none) (S_NoWatch : IsC W mg "NoWatch" sub_NoWatch) (S_BadText : IsC W mg "BadText" sub_BadText) (S_BadActing : IsC W mg "BadActing" sub_BadActing) (S_TooMany : IsC W mg "TooMany" sub_TooMany) (S_BadNumber : IsC W mg "BadNumber" sub_BadNumber) (S_NothingLeft : IsC W mg "NothingLeft" sub_NothingLeft) (S_BadName : IsC W mg "BadName" sub_BadName) (S_BadLive : IsC W mg "BadLive" sub_BadLive) (S_BadDeed : IsC W mg "BadDeed" sub_BadDeed) (S_NotAlike : IsC W mg "NotAlike" sub_NotAlike) (S_NotHere : IsC W mg "NotHere" sub_NotHere) (S_BadCell : IsC W mg "BadCell" sub_BadCell) (S_BadSpread : IsC W mg "BadSpread" sub_BadSpread) (S_BadLines : IsC W mg "BadLines" sub_BadLines) (S_BadWay : IsC W mg "BadWay" sub_BadWay) (S_BadRows : IsC W mg "BadRows" sub_BadRows) (S_NotTold : IsC W mg "NotTold" sub_NotTold) (S_NotFree : IsC W mg "NotFree" sub_NotFree) (S_BadCourse : IsC W mg "BadCourse" sub_BadCourse) (S_BadPowers : IsC W mg "BadPowers" sub_BadPowers) (S_BadWord : IsC W mg "BadWord" sub_BadWord) (S_BadSum : IsC W mg "BadSum" sub_BadSum) (S_BadOrder : IsC W mg "BadOrder" sub_BadOrder) (S_BadFilling : IsC W mg "BadFilling" sub_BadFilling) (S_BadBox : IsC W mg "BadBox" sub_BadBox) (S_BadShape : IsC W mg "BadShape" sub_BadShape) (S_BadPrime : IsC W mg "BadPrime" sub_BadPrime) : FnC W P w K mg base false (k + 1) "_law_kinds" f ["_law_error"] [] f__law_kinds :=
  mk_fn (N := N__law_kinds) (r := m__law_kinds) hK L sc__law_kinds (fun _ _ _ _ _ us hl => match us, hl with | [_], _ => rfl) (fun q hq => absurd hq (by simp)) fun E A outer s H o => by
  have S := sc__law_kinds
  exact s_c (s_s 1 S.nd (w_lst (a_n)))
    (s_c (s_s 1 S.nd (w_op o .add (w_var 1) (w_lst (a_c (w_iso o S_BadPrime g_isinstance (w_var 0)) (a_c (w_iso o S_BadShape g_isinstance (w_var 0)) (a_c (w_iso o S_BadBox g_isinstance (w_var 0)) (a_n)))))))
    (s_c (s_s 1 S.nd (w_op o .add (w_var 1) (w_lst (a_c (w_iso o S_BadFilling g_isinstance (w_var 0)) (a_c (w_iso o S_BadOrder g_isinstance (w_var 0)) (a_c (w_iso o S_BadSum g_isinstance (w_var 0)) (a_n)))))))
    (s_c (s_s 1 S.nd (w_op o .add (w_var 1) (w_lst (a_c (w_iso o S_BadWord g_isinstance (w_var 0)) (a_c (w_iso o S_BadPowers g_isinstance (w_var 0)) (a_c (w_iso o S_BadCourse g_isinstance (w_var 0)) (a_n)))))))
    (s_c (s_s 1 S.nd (w_op o .add (w_var 1) (w_lst (a_c (w_iso o S_NotFree g_isinstance (w_var 0)) (a_c (w_iso o S_NotTold g_isinstance (w_var 0)) (a_c (w_iso o S_BadRows g_isinstance (w_var 0)) (a_n)))))))
    (s_c (s_s 1 S.nd (w_op o .add (w_var 1) (w_lst (a_c (w_iso o S_BadWay g_isinstance (w_var 0)) (a_c (w_iso o S_BadLines g_isinstance (w_var 0)) (a_c (w_iso o S_BadSpread g_isinstance (w_var 0)) (a_n)))))))
    (s_c (s_s 1 S.nd (w_op o .add (w_var 1) (w_lst (a_c (w_iso o S_BadCell g_isinstance (w_var 0)) (a_c (w_iso o S_NotHere g_isinstance (w_var 0)) (a_c (w_iso o S_NotAlike g_isinstance (w_var 0)) (a_n)))))))
    (s_c (s_s 1 S.nd (w_op o .add (w_var 1) (w_lst (a_c (w_iso o S_BadDeed g_isinstance (w_var 0)) (a_c (w_iso o S_BadLive g_isinstance (w_var 0)) (a_c (w_iso o S_BadName g_isinstance (w_var 0)) (a_n)))))))
    (s_c (s_s 1 S.nd (w_op o .add (w_var 1) (w_lst (a_c (w_iso o S_NothingLeft g_isinstance (w_var 0)) (a_c (w_iso o S_BadNumber g_isinstance (w_var 0)) (a_c (w_iso o S_TooMany g_isinstance (w_var 0)) (a_n)))))))
    (s_c (s_s 1 S.nd (w_op o .add (w_var 1) (w_lst (a_c (w_iso o S_BadActing g_isinstance (w_var 0)) (a_c (w_iso o S_BadText g_isinstance (w_var 0)) (a_c (w_iso o S_NoWatch g_isinstance (w_var 0)) (a_n)))))))
    (s_c (s_rv 1)
    (s_n)))))))))))
theorem p__law_plain_errors {k : Nat} {f : Addr} {cdv : Value} (L : LkF K mg "_law_plain_errors" st__law_plain_errors f cdv) (E_NothingLeft : ErP W K mg 27 "NothingLeft") (E_BadName : ErP W K mg 24 "BadName") (E_BadLive : ErP W K mg 23 "BadLive") (E_BadDeed : ErP W K mg 22 "BadDeed") (E_NotAlike : ErP W K mg 21 "NotAlike") (E_NotHere : ErP W K mg 20 "NotHere") (E_BadCell : ErP W K mg 19 "BadCell") (E_BadSpread : ErP W K mg 18 "BadSpread") (E_BadLines : ErP W K mg 17 "BadLines") (E_BadWay : ErP W K mg 16 "BadWay") (E_BadRows : ErP W K mg 15 "BadRows") (E_NotTold : ErP W K mg 13 "NotTold") (E_NotFree : ErP W K mg 12 "NotFree") (E_BadCourse : ErP W K mg 11 "BadCourse") (E_BadPowers : ErP W K mg 10 "BadPowers") (E_BadWord : ErP W K mg 8 "BadWord") (E_BadSum : ErP W K mg 7 "BadSum") (E_BadOrder : ErP W K mg 6 "BadOrder") (E_BadFilling : ErP W K mg 5 "BadFilling") (E_BadBox : ErP W K mg 4 "BadBox") (E_BadShape : ErP W K mg 3 "BadShape") (E_BadPrime : ErP W K mg 1 "BadPrime") : FnC W P w K mg base false (k + 1) "_law_plain_errors" f ["_law_words_here"] [] f__law_plain_errors :=
  mk_fn (N := N__law_plain_errors) (r := m__law_plain_errors) hK L sc__law_plain_errors (fun _ _ _ _ _ us hl => match us, hl with | [_], _ => rfl) (fun q hq => absurd hq (by simp)) fun E A outer s H o => by
  have S := sc__law_plain_errors
  exact s_c (s_s 1 S.nd (w_lst (a_n)))
    (s_c (s_s 1 S.nd (w_op o .add (w_var 1) (w_lst (a_c (w_ep o E_BadPrime (w_var 0)) (a_c (w_ep o E_BadShape (w_var 0)) (a_c (w_ep o E_BadBox (w_var 0)) (a_c (w_ep o E_BadFilling (w_var 0)) (a_n))))))))
    (s_c (s_s 1 S.nd (w_op o .add (w_var 1) (w_lst (a_c (w_ep o E_BadOrder (w_var 0)) (a_c (w_ep o E_BadSum (w_var 0)) (a_c (w_ep o E_BadWord (w_var 0)) (a_c (w_ep o E_BadPowers (w_var 0)) (a_n))))))))
    (s_c (s_s 1 S.nd (w_op o .add (w_var 1) (w_lst (a_c (w_ep o E_BadCourse (w_var 0)) (a_c (w_ep o E_NotFree (w_var 0)) (a_c (w_ep o E_NotTold (w_var 0)) (a_c (w_ep o E_BadRows (w_var 0)) (a_n))))))))
    (s_c (s_s 1 S.nd (w_op o .add (w_var 1) (w_lst (a_c (w_ep o E_BadWay (w_var 0)) (a_c (w_ep o E_BadLines (w_var 0)) (a_c (w_ep o E_BadSpread (w_var 0)) (a_c (w_ep o E_BadCell (w_var 0)) (a_n))))))))
    (s_c (s_s 1 S.nd (w_op o .add (w_var 1) (w_lst (a_c (w_ep o E_NotHere (w_var 0)) (a_c (w_ep o E_NotAlike (w_var 0)) (a_c (w_ep o E_BadDeed (w_var 0)) (a_c (w_ep o E_BadLive (w_var 0)) (a_n))))))))
    (s_c (s_s 1 S.nd (w_op o .add (w_var 1) (w_lst (a_c (w_ep o E_BadName (w_var 0)) (a_c (w_ep o E_NothingLeft (w_var 0)) (a_n))))))
    (s_c (s_rv 1)
    (s_n))))))))
theorem p__law_errors_of {k : Nat} {f : Addr} {cdv : Value} (L : LkF K mg "_law_errors_of" st__law_errors_of f cdv) (E_NoWatch : ErF W P K mg 26 "NoWatch" "name" "nothing is watched under a name") (A_name : AtC W "name" ok_name) (E_BadText : ErF W P K mg 25 "BadText" "at" "not a text") (A_at : AtC W "at" ok_at) (E_BadActing : ErF W P K mg 14 "BadActing" "part" "a part of an acting is wrong, two do not fit, or it is no acting") (A_part : AtC W "part" ok_part) (E_TooMany : ErF W P K mg 9 "TooMany" "most" "more than can be worked out") (A_most : AtC W "most" ok_most) (E_BadNumber : ErF W P K mg 2 "BadNumber" "part" "a number is wrong") : FnC W P w K mg base false (k + 1) "_law_errors_of" f ["_law_each"] [] f__law_errors_of :=
  mk_fn (N := N__law_errors_of) (r := m__law_errors_of) hK L sc__law_errors_of (fun _ _ _ _ _ us hl => match us, hl with | [_], _ => rfl) (fun q hq => absurd hq (by simp)) fun E A outer s H o => by
  have S := sc__law_errors_of
  exact s_c (s_s 1 S.nd (w_lst (a_n)))
    (s_c (s_z [0] (s_app o 1 (w_tup (a_c (w_ef o E_BadNumber (w_var 0)) (a_c (w_att o A_part (w_ef o E_BadNumber (w_var 0))) (a_c (w_att o A_part (w_efk o E_BadNumber (w_var 0))) (a_n)))))))
    (s_c (s_z [0] (s_app o 1 (w_tup (a_c (w_ef o E_TooMany (w_var 0)) (a_c (w_att o A_most (w_ef o E_TooMany (w_var 0))) (a_c (w_att o A_most (w_efk o E_TooMany (w_var 0))) (a_n)))))))
    (s_c (s_z [0] (s_app o 1 (w_tup (a_c (w_ef o E_BadActing (w_var 0)) (a_c (w_att o A_part (w_ef o E_BadActing (w_var 0))) (a_c (w_att o A_part (w_efk o E_BadActing (w_var 0))) (a_n)))))))
    (s_c (s_z [0] (s_app o 1 (w_tup (a_c (w_ef o E_BadText (w_var 0)) (a_c (w_att o A_at (w_ef o E_BadText (w_var 0))) (a_c (w_att o A_at (w_efk o E_BadText (w_var 0))) (a_n)))))))
    (s_c (s_z [0] (s_app o 1 (w_tup (a_c (w_ef o E_NoWatch (w_var 0)) (a_c (w_att o A_name (w_ef o E_NoWatch (w_var 0))) (a_c (w_att o A_name (w_efk o E_NoWatch (w_var 0))) (a_n)))))))
    (s_c (s_rv 1)
    (s_n)))))))
theorem p__law_pick {k : Nat} {f : Addr} {cdv : Value} (L : LkF K mg "_law_pick" st__law_pick f cdv) {a__law_take : Addr} (C__law_take : FnC W P w K mg base false k "_law_take" a__law_take ["_law_draw", "_law_amount"] [] f__law_take) (g_len : mg "len" = none) : FnC W P w K mg base false (k + 1) "_law_pick" f ["_law_draw", "_law_some"] [] f__law_pick :=
  mk_fn (N := N__law_pick) (r := m__law_pick) hK L sc__law_pick (fun _ _ _ _ _ us hl => match us, hl with | [_, _], _ => rfl) (fun q hq => absurd hq (by simp)) fun E A outer s H o => by
  have S := sc__law_pick
  exact s_c (s_z [0] (s_r (w_ix o (w_var 1) (w_call o (C__law_take.gu) (a_c (w_var 0) (a_c (w_bltB o "len" (blt_len o.K) (bltM_ret .len) g_len (a_c (w_var 1) (a_n))) (a_n))) (len_c (len_c len_n))))))
    (s_n)
theorem p__law_any {k : Nat} {f : Addr} {cdv : Value} (L : LkF K mg "_law_any" st__law_any f cdv) {a__law_pick : Addr} (C__law_pick : FnC W P w K mg base false k "_law_pick" a__law_pick ["_law_draw", "_law_some"] [] f__law_pick) : FnC W P w K mg base false (k + 1) "_law_any" f ["_law_draw"] [] f__law_any :=
  mk_fn (N := N__law_any) (r := m__law_any) hK L sc__law_any (fun _ _ _ _ _ us hl => match us, hl with | [_], _ => rfl) (fun q hq => absurd hq (by simp)) fun E A outer s H o => by
  have S := sc__law_any
  exact s_c (s_s 1 S.nd (w_lst (a_c (w_non) (a_c (w_bl) (a_c (w_neg (w_int)) (a_c (w_op o .pow (w_int) (w_int)) (a_c (w_str) (a_c (w_str) (a_c (w_str) (a_c (w_lst (a_n)) (a_c (w_lst (a_c (w_tup (a_c (w_int) (a_c (w_int) (a_n)))) (a_n))) (a_c (w_tup (a_n)) (a_c (w_tup (a_c (w_int) (a_n))) (a_c (w_d0) (a_c (w_dsp o (d_c (w_tup (a_c (w_int) (a_n))) (d_n))) (a_c (w_lst (a_c (w_lst (a_c (w_non) (a_n))) (a_n))) (a_n)))))))))))))))))
    (s_c (s_z [0, 1] (s_r (w_call o (C__law_pick.gu) (a_c (w_var 0) (a_c (w_var 1) (a_n))) (len_c (len_c len_n)))))
    (s_n))
theorem p_law {k : Nat} {f : Addr} {cdv : Value} {E : XK} {A : Around} {outer : List Env} {s : Shared} {H : Hp} {a__law_kinds : Addr} (C__law_kinds : FnC W P w K mg base false k "_law_kinds" a__law_kinds ["_law_error"] [] f__law_kinds) (g_isinstance : mg "isinstance" = none) (g_ValueError : mg "ValueError" = none) (S_ValueError : IsB W "ValueError" sub_ValueError) (E_BoxError : ErP W K mg 0 "BoxError") (g_repr : mg "repr" = none) (g_enumerate : mg "enumerate" = none) (S_BoxError : IsC W mg "BoxError" sub_BoxError) (g_range : mg "range" = none) {a__law_plain_errors : Addr} (C__law_plain_errors : FnC W P w K mg base false k "_law_plain_errors" a__law_plain_errors ["_law_words_here"] [] f__law_plain_errors) {a__law_errors_of : Addr} (C__law_errors_of : FnC W P w K mg base false k "_law_errors_of" a__law_errors_of ["_law_each"] [] f__law_errors_of) {a__law_any : Addr} (C__law_any : FnC W P w K mg base false k "_law_any" a__law_any ["_law_draw"] [] f__law_any) {a__law_pick : Addr} (C__law_pick : FnC W P w K mg base false k "_law_pick" a__law_pick ["_law_draw", "_law_some"] [] f__law_pick) (o0 : Ok (cxOf (L2.CX P w) P w K mg base N_law "law" (defScope st_law) f cdv A outer s H E) W (Wk0 E) (k + 2) true) :
    PSs (cxOf (L2.CX P w) P w K mg base N_law "law" (defScope st_law) f cdv A outer s H E) ((defBody st_law).drop 1) (ST W E m_law) := by
  have S := sc_law
  have o := o0.down
  exact s_c (s_z [1] (s_t (w_tup (a_c (w_call o (C__law_pick.gu) (a_c (w_var 1) (a_c (w_lst (a_c (w_str) (a_c (w_str) (a_c (w_str) (a_n))))) (a_n))) (len_c (len_c len_n))) (a_c (w_call o (C__law_any.gu) (a_c (w_var 1) (a_n)) (len_c len_n)) (a_n)))) (g_t o (g_cons (g_n 5 S.nd) (g_cons (g_n 6 S.nd) (g_nil))))))
    (s_c (s_z [6] (s_s 2 S.nd (w_call o (C__law_errors_of.gu) (a_c (w_var 6) (a_n)) (len_c len_n))))
    (s_c (s_z [5] (s_s 3 S.nd (w_op o .add (w_call o (C__law_plain_errors.gu) (a_c (w_var 5) (a_n)) (len_c len_n)) (w_comp o [("_law_item", 9)] S.nd (i_v o (w_var 2)) (by rfl) (fun s H C cl fp => have ob := o.blk (s := s) (H := H) (fp := fp); ⟨g_n 9 S.nd, c_n, w_ix ob (w_var 9) (w_int)⟩)))))
    (s_c (s_z [3] (s_f o (some 3) (passes_of rfl) (i_en o g_enumerate (w_var 3)) (g_t o (g_cons (g_n 7 S.nd) (g_cons (g_n 8 S.nd) (g_nil)))) (s_c (s_z [8] (s_i (t_cmp o .ne (w_call o (C__law_kinds.gu) (a_c (w_var 8) (a_n)) (len_c len_n)) (w_comp o [("_law_k", 10)] S.nd (i_r1 g_range (w_int)) (by rfl) (fun s H C cl fp => have ob := o.blk (s := s) (H := H) (fp := fp); ⟨g_n 10 S.nd, c_n, w_cmp ob .eq (w_var 10) (w_var 7)⟩))) (s_c (s_r (w_bl))
    (s_n)) (s_n)))
    (s_c (s_i ((t_or (t_not (t_v o (w_iso o S_BoxError g_isinstance (w_var 8)))) (t_or1 (t_not (t_v o (w_isb o S_ValueError g_isinstance g_ValueError (w_var 8)))))).pt) (s_c (s_r (w_bl))
    (s_n)) (s_n))
    (s_n)))))
    (s_c (s_z [6] (s_i (t_cmp o .ne (w_comp o [("_law_item", 9)] S.nd (i_v o (w_var 2)) (by rfl) (fun s H C cl fp => have ob := o.blk (s := s) (H := H) (fp := fp); ⟨g_n 9 S.nd, c_1 (t_cmp ob .ne (w_bltB ob "repr" (blt_reprD ob.K ob.u (ob.gs rfl)) reprD_ret g_repr (a_c (w_lst (a_c (w_ix ob (w_var 9) (w_int)) (a_c (w_ix ob (w_var 9) (w_int)) (a_n)))) (a_n))) (w_bltB ob "repr" (blt_reprD ob.K ob.u (ob.gs rfl)) reprD_ret g_repr (a_c (w_lst (a_c (w_var 6) (a_c (w_var 6) (a_n)))) (a_n)))), w_int⟩)) (w_lst (a_n))) (s_c (s_r (w_bl))
    (s_n)) (s_n)))
    (s_c (s_s 4 S.nd (w_ep o E_BoxError (w_str)))
    (s_c (s_z [4] (s_r (w_and (w_cmp o .nmem (w_bl) (w_call o (C__law_kinds.gu) (a_c (w_var 4) (a_n)) (len_c len_n))) (w_one (w_isb o S_ValueError g_isinstance g_ValueError (w_var 4))))))
    (s_n)))))))
end
end Bx
/-! the draws -/
namespace Bx
open PySem PySem.Spec L2
/-- no ghosts -/
def Wt (K : PySem.W.Frag) (a : Addr) : Wd where
  K := K
  Gh := fun _ => False
  WI := fun _ _ => True
  stab := fun _ _ _ _ _ _ _ => trivial
  there := fun _ _ _ _ h => h.elim
  gd := 0
  scA := a
  fnA := fun _ => 0
  clsA := fun _ => 0
  fld := fun _ => ""
  hf := fun _ => false
theorem st_t {K : PySem.W.Frag} {a : Addr} {F H : Hp} (h : Same F H) : St0 (Wt K a) F H := ⟨h, trivial, fun _ z => z.elim⟩
def dkv (L C : Addr) (r t : Int) : List (Key × V) := [(.inr "large", .ref L), (.inr "rest", .int r), (.inr "cells", .ref C), (.inr "turn", .int t)]
structure DrawAt (H : Hp) (gd L C : Addr) (r t : Int) (ls cs : List Int) : Prop where
  d : H gd = some (.dK (dkv L C r t))
  l : H L = some (.lst (ls.map .int))
  c : H C = some (.lst (cs.map .int))
  hr : 0 ≤ r
  hl : ∀ i ∈ ls, 0 ≤ i
  hc : ∀ i ∈ cs, 0 ≤ i
  ht : 0 ≤ t
  lc : L ≠ C
theorem DrawAt.gl {H : Hp} {gd L C : Addr} {r t : Int} {ls cs : List Int} (D : DrawAt H gd L C r t ls cs) : L ≠ gd := fun z => by
  have := D.l
  rw [z, D.d] at this; cases this
theorem DrawAt.gc {H : Hp} {gd L C : Addr} {r t : Int} {ls cs : List Int} (D : DrawAt H gd L C r t ls cs) : C ≠ gd := fun z => by
  have := D.c
  rw [z, D.d] at this; cases this
theorem fits_69621 : fits 69621 = true := by decide
theorem fits_48271 : fits 48271 = true := by decide
theorem fits_2147483647 : fits 2147483647 = true := by decide
/-- one grain -/
theorem mix_in (dd : Option M) (G t fo b z : Int) (x : Option M) (hG : 0 < G) :
    (sC (sS 4 (xO (opM .mod) (xO (opM .add) (xO (opM .mul) (xV true 4) (xC (.int 48271))) (xB (arg1 intF) (eC (xV true 5) (eN)))) (xV true 1))) (sN)) [dd, some (.fz (.int G)), some (.fz (.int t)), some (.fz (.int fo)), some (.fz (.int b)), some (.fz (.int z))] =
      .ret (.nx, [dd, some (.fz (.int G)), some (.fz (.int t)), some (.fz (.int fo)), some (.fz (.int ((b * 48271 + z) % G))), some (.fz (.int z))]) := by
  simp [sC, sS, sN, xO, xV, xC, xB, eC, eN, varM, lookM, opM, arg1, intF, setE, thenE, fits_48271, hG]
theorem mix_loop (dd : Option M) (G t fo : Int) (hG : 0 < G) : ∀ (cs : List Int) (b : Int) (x : Option M), 0 ≤ b → b < G → ∃ b' x', 0 ≤ b' ∧ b' < G ∧
    forL (fun x ρ => bindR (bindT (.nm 5) x ρ) fun ρ' => (sC (sS 4 (xO (opM .mod) (xO (opM .add) (xO (opM .mul) (xV true 4) (xC (.int 48271))) (xB (arg1 intF) (eC (xV true 5) (eN)))) (xV true 1))) (sN)) ρ') (cs.map D.int)
      [dd, some (.fz (.int G)), some (.fz (.int t)), some (.fz (.int fo)), some (.fz (.int b)), x] = .ret (.nx, [dd, some (.fz (.int G)), some (.fz (.int t)), some (.fz (.int fo)), some (.fz (.int b')), x'])
  | [], b, x, h0, h1 => ⟨b, x, h0, h1, rfl⟩
  | z :: cs, b, x, h0, h1 => by
    obtain ⟨b', x', h2, h3, h4⟩ := mix_loop dd G t fo hG cs ((b * 48271 + z) % G) (some (.fz (.int z))) (Int.emod_nonneg _ (by omega)) (Int.emod_lt_of_pos _ hG)
    refine ⟨b', x', h2, h3, ?_⟩
    rw [List.map_cons]
    unfold forL
    rw [show bindT (.nm 5) (D.int z) [dd, some (.fz (.int G)), some (.fz (.int t)), some (.fz (.int fo)), some (.fz (.int b)), x] = some [dd, some (.fz (.int G)), some (.fz (.int t)), some (.fz (.int fo)), some (.fz (.int b)), some (.fz (.int z))] from rfl]
    simp only [bindR]
    rw [mix_in dd G t fo b z x hG]
    simp only [R.ret_bind]
    exact h4
theorem mix_big (ls cs : List Int) (r t fo G : Int) (bl gn : Option M) (hf : 0 ≤ fo) (hG : 0 < G) (h30 : G < 2147483648) : ∃ fo' bl' gn', 0 ≤ fo' ∧
    (sC (sS 4 (xO (opM .mod) (xO (opM .add) (xO (opM .mul) (xV true 2) (xC (.int 69621))) (xO (opM .fdiv) (xV true 1) (xC (.int 7)))) (xV true 1)))
    (sC (sF none (.nm 5) (iV (xO dgetM (xV true 0) (xC (.str "cells")))) (sC (sS 4 (xO (opM .mod) (xO (opM .add) (xO (opM .mul) (xV true 4) (xC (.int 48271))) (xB (arg1 intF) (eC (xV true 5) (eN)))) (xV true 1)))
    (sN)))
    (sC (sS 3 (xO (opM .add) (xO (opM .mul) (xV true 3) (xC (.int 2147483647))) (xO (opM .mod) (xO (opM .pow) (xV true 4) (xC (.int 5))) (xV true 1))))
    (sN)))) [some (.fz (.dct [(.str "large", .lst (ls.map .int)), (.str "rest", .int r), (.str "cells", .lst (cs.map .int)), (.str "turn", .int t)])), some (.fz (.int G)), some (.fz (.int t)), some (.fz (.int fo)), bl, gn] =
     .ret (.nx, [some (.fz (.dct [(.str "large", .lst (ls.map .int)), (.str "rest", .int r), (.str "cells", .lst (cs.map .int)), (.str "turn", .int t)])), some (.fz (.int G)), some (.fz (.int t)), some (.fz (.int fo')), bl', gn']) := by
  obtain ⟨b', x', h2, h3, h4⟩ := mix_loop (some (.fz (.dct [(.str "large", .lst (ls.map .int)), (.str "rest", .int r), (.str "cells", .lst (cs.map .int)), (.str "turn", .int t)]))) G t fo hG cs ((t * 69621 + G / 7) % G) gn (Int.emod_nonneg _ (by omega)) (Int.emod_lt_of_pos _ hG)
  have hb : b'.natAbs < 2 ^ 64 := by omega
  refine ⟨fo * 2147483647 + b' ^ 5 % G, some (.fz (.int b')), x', by have := Int.emod_nonneg (b' ^ 5) (show G ≠ 0 by omega); omega, ?_⟩
  have e1 : (sS 4 (xO (opM .mod) (xO (opM .add) (xO (opM .mul) (xV true 2) (xC (.int 69621))) (xO (opM .fdiv) (xV true 1) (xC (.int 7)))) (xV true 1))) [some (.fz (.dct [(.str "large", .lst (ls.map .int)), (.str "rest", .int r), (.str "cells", .lst (cs.map .int)), (.str "turn", .int t)])), some (.fz (.int G)), some (.fz (.int t)), some (.fz (.int fo)), bl, gn] =
      .ret (.nx, [some (.fz (.dct [(.str "large", .lst (ls.map .int)), (.str "rest", .int r), (.str "cells", .lst (cs.map .int)), (.str "turn", .int t)])), some (.fz (.int G)), some (.fz (.int t)), some (.fz (.int fo)), some (.fz (.int ((t * 69621 + G / 7) % G))), gn]) := by
    simp [sS, xO, xV, xC, varM, lookM, opM, setE, fits_69621, hG]
  have e2 : (iV (xO dgetM (xV true 0) (xC (.str "cells")))) [some (.fz (.dct [(.str "large", .lst (ls.map .int)), (.str "rest", .int r), (.str "cells", .lst (cs.map .int)), (.str "turn", .int t)])), some (.fz (.int G)), some (.fz (.int t)), some (.fz (.int fo)), some (.fz (.int ((t * 69621 + G / 7) % G))), gn] = .ret (cs.map .int) := rfl
  have e3 : (sS 3 (xO (opM .add) (xO (opM .mul) (xV true 3) (xC (.int 2147483647))) (xO (opM .mod) (xO (opM .pow) (xV true 4) (xC (.int 5))) (xV true 1)))) [some (.fz (.dct [(.str "large", .lst (ls.map .int)), (.str "rest", .int r), (.str "cells", .lst (cs.map .int)), (.str "turn", .int t)])), some (.fz (.int G)), some (.fz (.int t)), some (.fz (.int fo)), some (.fz (.int b')), x'] =
      .ret (.nx, [some (.fz (.dct [(.str "large", .lst (ls.map .int)), (.str "rest", .int r), (.str "cells", .lst (cs.map .int)), (.str "turn", .int t)])), some (.fz (.int G)), some (.fz (.int t)), some (.fz (.int (fo * 2147483647 + b' ^ 5 % G))), some (.fz (.int b')), x']) := by
    simp [sS, xO, xV, xC, varM, lookM, opM, setE, fits_2147483647, hG, hb]
  have e4 : ∀ (a b : XS) (ρ ρ' : En), a ρ = .ret (.nx, ρ') → sC a b ρ = b ρ' := fun a b ρ ρ' h => by
    unfold sC
    rw [h]
    rfl
  rw [e4 _ _ _ _ e1]
  have e5 : (sF none (.nm 5) (iV (xO dgetM (xV true 0) (xC (.str "cells")))) (sC (sS 4 (xO (opM .mod) (xO (opM .add) (xO (opM .mul) (xV true 4) (xC (.int 48271))) (xB (arg1 intF) (eC (xV true 5) (eN)))) (xV true 1))) (sN))) [some (.fz (.dct [(.str "large", .lst (ls.map .int)), (.str "rest", .int r), (.str "cells", .lst (cs.map .int)), (.str "turn", .int t)])), some (.fz (.int G)), some (.fz (.int t)), some (.fz (.int fo)), some (.fz (.int ((t * 69621 + G / 7) % G))), gn] = .ret (.nx, [some (.fz (.dct [(.str "large", .lst (ls.map .int)), (.str "rest", .int r), (.str "cells", .lst (cs.map .int)), (.str "turn", .int t)])), some (.fz (.int G)), some (.fz (.int t)), some (.fz (.int fo)), some (.fz (.int b')), x']) := by
    unfold sF
    simp only [frzE]
    rw [e2]
    exact h4
  rw [e4 _ _ _ _ e5, e4 _ _ _ _ e3]
  rfl
theorem sC_nx {a b : XS} {ρ ρ' : En} (h : a ρ = .ret (.nx, ρ')) : sC a b ρ = b ρ' := by
  unfold sC
  rw [h]
  rfl
theorem forL_nx {f : D → En → R (Fl × En)} {x : D} {xs : List D} {ρ ρ' : En} (h : f x ρ = .ret (.nx, ρ')) : forL f (x :: xs) ρ = forL f xs ρ' := by
  conv => lhs; unfold forL
  rw [h]
  rfl
theorem mix_wp (ls cs : List Int) (r t : Int) : ∃ x ρ', 0 ≤ x ∧ m__law_mixed [some (.fz (.dct [(.str "large", .lst (ls.map .int)), (.str "rest", .int r), (.str "cells", .lst (cs.map .int)), (.str "turn", .int t)])), none, none, none, none, none] = .ret (.rt (.fz (.int x)), ρ') := by
  obtain ⟨f1, b1, g1, h1, e1⟩ := mix_big ls cs r t 0 2147483629 none none (by decide) (by decide) (by decide)
  obtain ⟨f2, b2, g2, h2, e2⟩ := mix_big ls cs r t f1 2147483587 b1 g1 h1 (by decide) (by decide)
  obtain ⟨f3, b3, g3, h3, e3⟩ := mix_big ls cs r t f2 2147483579 b2 g2 h2 (by decide) (by decide)
  refine ⟨f3, [some (.fz (.dct [(.str "large", .lst (ls.map .int)), (.str "rest", .int r), (.str "cells", .lst (cs.map .int)), (.str "turn", .int t)])), some (.fz (.int 2147483579)), some (.fz (.int t)), some (.fz (.int f3)), b3, g3], h3, ?_⟩
  unfold m__law_mixed
  rw [sC_nx (show _ = R.ret (Fl.nx, [some (.fz (.dct [(.str "large", .lst (ls.map .int)), (.str "rest", .int r), (.str "cells", .lst (cs.map .int)), (.str "turn", .int t)])), none, some (.fz (.int t)), some (.fz (.int 0)), none, none]) from rfl)]
  rw [sC_nx (ρ' := [some (.fz (.dct [(.str "large", .lst (ls.map .int)), (.str "rest", .int r), (.str "cells", .lst (cs.map .int)), (.str "turn", .int t)])), some (.fz (.int 2147483579)), some (.fz (.int t)), some (.fz (.int f3)), b3, g3]) ?_]
  · rfl
  · unfold sF
    simp only [frzE]
    rw [show (iV (xL (eC (xC (.int 2147483629)) (eC (xC (.int 2147483587)) (eC (xC (.int 2147483579)) (eN)))))) [some (.fz (.dct [(.str "large", .lst (ls.map .int)), (.str "rest", .int r), (.str "cells", .lst (cs.map .int)), (.str "turn", .int t)])), none, some (.fz (.int t)), some (.fz (.int 0)), none, none] = .ret [D.int 2147483629, D.int 2147483587, D.int 2147483579] from rfl]
    simp only [R.ret_bind]
    rw [forL_nx (ρ' := _) (by exact e1), forL_nx (ρ' := _) (by exact e2), forL_nx (ρ' := _) (by exact e3)]
    rfl
theorem pe_fng {X : Cx} {g : Bool} {k : Nat} {f : Addr} {fd : FuncData} {ps : List Str} {sp : Sp} {Wx : WX} {e1 : Expr} {es : List Expr} {x : Str} {p pos : Pos} {t : TA} (Fn : FnG g X.prog X.w X.K X.mg X.base k f fd ps sp) (hgs : g = true → X.A.guards = some []) (hr : Room k X.A) (tk : Takes X Wx) (gm : X.mg x = some (.ref f)) (hk : PySem.W.keepIn X.K (.ref f) = true) (hB : L2.Binds X.K fd ps []) (ha : PA X (e1 :: es) t)
    (hg : Gl X x := by rfl) (hdb : (x == ("__debug__" : Str)) = false := by decide) (he : starEach (e1 :: es) X.env = (false, eval e1 X.env) :: starEach es X.env := by rfl) (hpl : (backTo pos (starEach es X.env)).any (·.1) = false := by rfl) :
    PE X (.Call (.Name x p) (e1 :: es) [] pos) (fun σ H Q => t σ H fun vs H1 => sp vs H1 Q (WE Wx σ)) := by
  refine ⟨fun pins s σ H Q I h => ?_⟩
  refine wpAny_Call_Name_kw (ld_glob I hg gm ?_ hdb)
  refine PySem.W.callWith_K (h₀ := X.base) I.ok.mod.kin hk (thn (ha.run pos pins s σ H _ I h) fun us s1 ⟨vs, H1, I1, r, q⟩ => ⟨I1.kIn, ?_⟩) he hpl
  exact run_fng (E := WE Wx) Fn hgs hr hB (passAt tk σ) I1 r q
section
variable {P : Program} {w : World} {K : PySem.W.Frag} {mg : Str → Option Value} {base : Heap} {gd L C : Addr}
/-- _law_mixed(draw): some number; the turn is one more -/
def spMix (gd L C : Addr) : Sp := fun vs H Q _ => vs = [.ref gd] ∧ ∃ r t ls cs, DrawAt H gd L C r t ls cs ∧
  ∀ x H', 0 ≤ x → H' gd = some (.dK (dkv L C r (t + 1))) → (∀ b o, b ≠ gd → H b = some o → H' b = some o) → Q (.int x) H'
theorem dkv_len (L C : Addr) (r t : Int) : (dkv L C r t).length < sizeLine := (by decide : 4 < sizeLine)
theorem val_turn {r t : Int} : valV (dkv L C r t) (.inr "turn") = some (.int t) := by rfl
theorem put_turn {r t u : Int} : putK (dkv L C r t) (.inr "turn") (.int u) = dkv L C r u := by rfl
theorem val_rest {r t : Int} : valV (dkv L C r t) (.inr "rest") = some (.int r) := by rfl
theorem put_rest {r t u : Int} : putK (dkv L C r t) (.inr "rest") (.int u) = dkv L C u t := by rfl
theorem val_large {r t : Int} : valV (dkv L C r t) (.inr "large") = some (.ref L) := by rfl
theorem rep_dkv {a : Addr} {F : Hp} {r t : Int} {ls cs : List Int} (D : DrawAt F gd L C r t ls cs) : Rep (Wt K a) F (.ref gd) (.dct [(.str "large", .lst (ls.map .int)), (.str "rest", .int r), (.str "cells", .lst (cs.map .int)), (.str "turn", .int t)]) :=
  .dctK D.d (.cons (k := .inr "large") (.lst D.l (RepL.ints ls)) (.cons (k := .inr "rest") (.int r) (.cons (k := .inr "cells") (.lst D.c (RepL.ints cs)) (.cons (k := .inr "turn") (.int t) .nil))))
theorem DrawAt.put {H : Hp} {r t r' t' : Int} {ls cs : List Int} (D : DrawAt H gd L C r t ls cs) (hr : 0 ≤ r') (ht : 0 ≤ t') : DrawAt (upd H gd (.dK (dkv L C r' t'))) gd L C r' t' ls cs :=
  ⟨upd_same, by rw [upd_ne D.gl]; exact D.l, by rw [upd_ne D.gc]; exact D.c, hr, D.hl, D.hc, ht, D.lc⟩
theorem mix_ok {k : Nat} {f : Addr} {cdv : Value} (Lk : LkF K mg "_law_mixed" st__law_mixed f cdv) (g_int : mg "int" = none) : ∃ fd, FnG false P w K mg base (k + 1) f fd ["_law_draw"] (spMix gd L C) ∧ L2.Binds K fd ["_law_draw"] [] := by
  obtain ⟨⟨oc, kV, doc, pm, ct, od, an, osl, lk⟩, cd, gl, kp⟩ := Lk
  refine ⟨PySem.W.fnOf "_law_mixed" "_law_mixed" (defArgs st__law_mixed) (defBody st__law_mixed) (defScope st__law_mixed) .none kV doc pm an cdv ct, ⟨fun vs H Q E h => by rw [h.1]; rfl, fun A outer s H args us vs Q E hgs hr e0 hb rv h => ?_⟩, .all fun us hl => match us, hl with | [_], _ => rfl⟩
  refine LamX.run_ofS lk cd sc__law_mixed hr e0 hb rv (by rw [h.1]; rfl) fun hr' => ?_
  obtain ⟨rfl, r, t, ls, cs, D, q⟩ := h
  have o : Ok (cxOf (L2.CX P w) P w K mg base N__law_mixed "_law_mixed" (defScope st__law_mixed) f cdv A outer s H E) (Wt K 0) (Wk0 E) k false := ⟨rfl, rfl, hr', takes_of rfl rfl rfl rfl, hgs⟩
  have hu : (cxOf (L2.CX P w) P w K mg base N__law_mixed "_law_mixed" (defScope st__law_mixed) f cdv A outer s H E).A.units + 1 < cLine := by have := o.u; omega
  have S := sc__law_mixed
  refine ⟨_, pss_cons (ps_dput hu (pe_var (i := 0) rfl (.inl rfl) (by decide) (by decide)) pe_str (pe_op op_add (pe_dget hu (pe_var (i := 0) rfl (.inl rfl) (by decide) (by decide)) pe_str (fun _ _ => rfl)) pe_int) rfl) (p__law_mixed (W := Wt K 0) (K := K) rfl g_int o), ?_⟩
  have z : dkv L C r t = dkv L C r t := rfl
  refine ⟨_, rfl, gd, .int t, rfl, by rw [← val_turn (L := L) (C := C) (r := r)]; exact DGet.k (k := .inr "turn") D.d, _, _, rfl, rfl, _, rfl, gd, upd H gd (.dK (dkv L C r (t + 1))), rfl, ?_, ?_⟩
  · rw [← put_turn (L := L) (C := C) (r := r) (t := t)]
    exact DPut.k (k := .inr "turn") D.d (dkv_len _ _ _ _)
  · obtain ⟨x, ρ', hx, e⟩ := mix_wp ls cs r (t + 1)
    have D1 : DrawAt (upd H gd (.dK (dkv L C r (t + 1)))) gd L C r (t + 1) ls cs := D.put D.hr (by have := D.ht; omega)
    refine ⟨upd H gd (.dK (dkv L C r (t + 1))), [], _, ⟨st_t (Same.refl _), .som (A := []) (.fz (rep_dkv D1)) (.non (.non (.non (.non (.non .nil))))), List.nodup_nil⟩, ?_⟩
    rw [e]
    intro F' H' A' sp s' v rv _
    have rv := int_rep rv
    subst rv
    refine q x H' hx (sp.keep gd _ upd_same id (by simp)) fun b o hb e => sp.keep b o (by rw [upd_ne hb]; exact e) id (by simp)
theorem pls_ints (n : Nat) (ls : List Int) : pls n (ls.map D.int) = true := by
  induction ls with
  | nil => cases n <;> rfl
  | cons z ls ih => rw [List.map_cons, pls, ih]; cases n <;> rfl
theorem if_pos_of {c : Prop} [Decidable c] {A B : Prop} (hc : c) (h : A) : if c then A else B := by rw [if_pos hc]; exact h
theorem if_neg_of {c : Prop} [Decidable c] {A B : Prop} (hc : ¬ c) (h : B) : if c then A else B := by rw [if_neg hc]; exact h
/-- the world of a law: the draws, the tables -/
structure Lw where
  gd : Addr
  L : Addr
  C : Addr
  T : List (Addr × Str)
/-- _law_take(draw, n): a number below n -/
def spTake (gd L C : Addr) : Sp := fun vs H Q _ => ∃ n, vs = [.ref gd, .int n] ∧ (0 < n ∧ n < 1073741824) ∧ (∃ r t ls cs, DrawAt H gd L C r t ls cs) ∧
  ∀ i H', 0 ≤ i → i < n → (∃ r t ls cs, DrawAt H' gd L C r t ls cs) → (∀ b o, b ≠ gd → b ≠ L → H b = some o → H' b = some o) → Q (.int i) H'
theorem take_ok {k : Nat} {f fm : Addr} {cdv : Value} (Lk : LkF K mg "_law_take" (top 32) f cdv) (g_int : mg "int" = none) {fdm : FuncData} (Mx : FnG false P w K mg base k fm fdm ["_law_draw"] (spMix gd L C)) (Bm : L2.Binds K fdm ["_law_draw"] []) (gm : mg "_law_mixed" = some (.ref fm)) (km : PySem.W.keepIn K (.ref fm) = true) :
    ∃ fd, FnG false P w K mg base (k + 1) f fd ["_law_draw", "_law_amount"] (spTake gd L C) ∧ L2.Binds K fd ["_law_draw", "_law_amount"] [] := by
  obtain ⟨⟨oc, kV, doc, pm, ct, od, an, osl, lk⟩, cd, gl, kp⟩ := Lk
  have S : FnScope ["_law_draw", "_law_amount", "_law_found"] ["_law_draw", "_law_amount"] (defScope (top 32)) := ⟨rfl, rfl, rfl, by decide +kernel, rfl, by decide +kernel, by decide +kernel⟩
  refine ⟨PySem.W.fnOf "_law_take" "_law_take" (defArgs (top 32)) (defBody (top 32)) (defScope (top 32)) .none kV doc pm an cdv ct, ⟨fun vs H Q E h => by obtain ⟨n, e, _⟩ := h; rw [e]; rfl, fun A outer s H args us vs Q E hgs hr e0 hb rv h => ?_⟩, .all fun us hl => match us, hl with | [_, _], _ => rfl⟩
  refine LamX.run_ofS lk cd S hr e0 hb rv (by obtain ⟨n, e, _⟩ := h; rw [e]; rfl) fun hr' => ?_
  obtain ⟨n, rfl, ⟨n0, n1⟩, ⟨r, t, ls, cs, D⟩, q⟩ := h
  have o : Ok (cxOf (L2.CX P w) P w K mg base ["_law_draw", "_law_amount", "_law_found"] "_law_take" (defScope (top 32)) f cdv A outer s H E) (Wt K 0) (Wk0 E) k false := ⟨rfl, rfl, hr', takes_of rfl rfl rfl rfl, hgs⟩
  have hu : (cxOf (L2.CX P w) P w K mg base ["_law_draw", "_law_amount", "_law_found"] "_law_take" (defScope (top 32)) f cdv A outer s H E).A.units + 1 < cLine := by have := o.u; omega
  refine ⟨_, pss_cons (ps_if (pt_cmpR op_eq (pe_dget hu (pe_var (i := 0) rfl (.inl rfl) (by decide) (by decide)) pe_str (fun _ _ => rfl)) pe_int (nomark _))
    (pss_one (ps_dput hu (pe_var (i := 0) rfl (.inl rfl) (by decide) (by decide)) pe_str (pe_ifExp (pt_cmpR (cmp_ok (W := Wt K 0) o.K o.u .ne) (pe_dget hu (pe_var (i := 0) rfl (.inl rfl) (by decide) (by decide)) pe_str (fun _ _ => rfl)) (pe_lst pa_nil) (nomark _)) (pe_bm PySem.F.plainAttrs_list PySem.F.slot_list_pop PySem.F.type_list_pop mt_popAt (pe_dget hu (pe_var (i := 0) rfl (.inl rfl) (by decide) (by decide)) pe_str (fun _ _ => rfl)) (pa_cons pe_int pa_nil)) (pe_fng Mx hgs hr' o.tk gm km Bm (pa_cons (pe_var (i := 0) rfl (.inl rfl) (by decide) (by decide)) pa_nil))) rfl)) pss_nil)
    (pss_cons (ps_set (i := 2) S.nd rfl (.inl rfl) (pe_op op_mod (pe_callTy call_int1 rfl g_int (by decide +kernel) (pa_cons (pe_dget hu (pe_var (i := 0) rfl (.inl rfl) (by decide) (by decide)) pe_str (fun _ _ => rfl)) pa_nil)) (pe_var (i := 1) rfl (.inl rfl) (by decide) (by decide))))
    (pss_cons (ps_dput hu (pe_var (i := 0) rfl (.inl rfl) (by decide) (by decide)) pe_str (pe_op op_fdiv (pe_callTy call_int1 rfl g_int (by decide +kernel) (pa_cons (pe_dget hu (pe_var (i := 0) rfl (.inl rfl) (by decide) (by decide)) pe_str (fun _ _ => rfl)) pa_nil)) (pe_var (i := 1) rfl (.inl rfl) (by decide) (by decide))) rfl)
    (pss_one (ps_ret (pe_var (i := 2) rfl (.inl rfl) (by decide) (by decide)))))), ?_⟩
  have dg : ∀ {H : Hp} {r t : Int} {ls cs : List Int}, DrawAt H gd L C r t ls cs → DGet H gd (.str "rest") (some (.int r)) := fun {H r t ls cs} D => by
    rw [← val_rest (L := L) (C := C) (t := t)]
    exact DGet.k (k := .inr "rest") D.d
  have dp : ∀ {H : Hp} {r t u : Int} {ls cs : List Int}, DrawAt H gd L C r t ls cs → DPut H gd (.str "rest") (.int u) (upd H gd (.dK (dkv L C u t))) := fun {H r t u ls cs} D => by
    rw [← put_rest (L := L) (C := C) (r := r) (t := t)]
    exact DPut.k (k := .inr "rest") D.d (dkv_len _ _ _ _)
  have last : ∀ {H2 : Hp} {r t : Int} {ls cs : List Int}, DrawAt H2 gd L C r t ls cs → (∀ b o, b ≠ gd → b ≠ L → H b = some o → H2 b = some o) →
      tSeq (tAsg (tOp (rI (fun x j => 0 < j) fun i j => V.int (i % j)) (tCB (fun xs H Q => (∃ i, xs = [V.int i] ∧ Q (V.int i) H) ∨ ∃ k, xs = [V.bl k] ∧ Q (V.int (if k = true then 1 else 0)) H) (tCons (tDGet (tVar 0) (tC (V.str "rest"))) tNil)) (tVar 1)) (gName 2))
        (tSeq (sDPut (tVar 0) (tC (V.str "rest")) (tOp (rI CDiv fun i j => V.int (i / j)) (tCB (fun xs H Q => (∃ i, xs = [V.int i] ∧ Q (V.int i) H) ∨ ∃ k, xs = [V.bl k] ∧ Q (V.int (if k = true then 1 else 0)) H) (tCons (tDGet (tVar 0) (tC (V.str "rest"))) tNil)) (tVar 1)))
          (tRet (tVar 2))) { nx := fun _ H' => Q .non H', rt := Q } (L2.start ["_law_draw", "_law_amount", "_law_found"] [V.ref gd, V.int n]) H2 := fun {H2 r t ls cs} D2 kp2 => by
    refine ⟨_, rfl, _, .int r, rfl, dg D2, .inl ⟨r, rfl, _, rfl, _, _, rfl, rfl, n0, ?_⟩⟩
    refine ⟨_, rfl, _, .int r, rfl, dg D2, .inl ⟨r, rfl, _, rfl, _, _, rfl, rfl, ⟨n0, n1⟩, ?_⟩⟩
    refine ⟨_, rfl, gd, _, rfl, dp D2, ?_⟩
    refine ⟨_, rfl, ?_⟩
    refine q _ _ (Int.emod_nonneg _ (by omega)) (Int.emod_lt_of_pos _ n0) ⟨_, _, _, _, D2.put (Int.ediv_nonneg D2.hr (by omega)) D2.ht⟩ fun b o h1 h2 e => ?_
    rw [upd_ne h1]
    exact kp2 b o h1 h2 e
  refine ⟨_, rfl, _, .int r, rfl, dg D, ?_⟩
  refine ⟨rfl, _, rfl, ?_⟩
  by_cases hr0 : r = 0
  · subst hr0
    refine if_pos_of (by decide) ?_
    -- large is not empty?
    refine ⟨_, rfl, gd, .ref L, rfl, by rw [← val_large (L := L) (C := C) (r := 0) (t := t)]; exact DGet.k (k := .inr "large") D.d, ?_⟩
    refine ⟨by decide, fun p hp => ?_⟩
    have k0 : ∀ b o, H b = some o → upd H p (.lst []) b = some o := fun b o e => by rw [upd_ne (ne_of_none e hp)]; exact e
    have hcmp : cmpM .ne (.fz (.lst (ls.map .int))) (.fz (.lst [])) = .ret (.fz (.bl (!ls.isEmpty))) := by
      have h1 : pl 60 (Bx.D.lst (ls.map .int)) = true := pls_ints 59 ls
      have h2 : pl 60 (Bx.D.lst []) = true := rfl
      unfold cmpM
      simp only [M.toD, h1, h2]
      cases ls <;> rfl
    refine ⟨upd H p (.lst []), [], [], .fz (.lst (ls.map .int)), .fz (.lst []), st_t (Same.refl _), .fz (.lst (k0 _ _ D.l) (RepL.ints ls)), .fz (.lst upd_same .nil), _, hcmp, fun v F' H' A' gr rv _ _ => ?_⟩
    have rv := bl_rep rv
    subst rv
    have k1 : ∀ b o, H b = some o → H' b = some o := fun b o e => gr.keep b o (k0 b o e) id
    have D1 : DrawAt H' gd L C 0 t ls cs := ⟨k1 _ _ D.d, k1 _ _ D.l, k1 _ _ D.c, D.hr, D.hl, D.hc, D.ht, D.lc⟩
    refine ⟨_, rfl, ?_⟩
    cases ls with
    | nil =>
      refine if_neg_of (by decide) ?_
      refine ⟨_, rfl, rfl, 0, t, [], cs, D1, fun x H2 hx hd hk => ?_⟩
      have D2 : DrawAt H2 gd L C 0 (t + 1) [] cs := ⟨hd, hk _ _ D1.gl D1.l, hk _ _ D1.gc D1.c, Int.le_refl 0, D1.hl, D1.hc, by have := D1.ht; omega, D1.lc⟩
      refine ⟨_, rfl, gd, _, rfl, dp D2, last (D2.put hx D2.ht) fun b o h1 h2 e => ?_⟩
      rw [upd_ne h1]
      exact hk b o h1 (k1 b o e)
    | cons z ls =>
      refine if_pos_of rfl ?_
      refine ⟨_, rfl, gd, .ref L, rfl, by rw [← val_large (L := L) (C := C) (r := 0) (t := t)]; exact DGet.k (k := .inr "large") D1.d, .inl ⟨rfl, _, sqL_of D1.l⟩, ?_⟩
      refine ⟨L, _, 0, 0, .int z, rfl, rfl, D1.l, by decide, by decide, by simp [seqIndex?], rfl, ?_⟩
      have D2 : DrawAt (upd H' L (.lst (ls.map .int))) gd L C 0 t ls cs := ⟨by rw [upd_ne (Ne.symm D1.gl)]; exact D1.d, upd_same, by rw [upd_ne (Ne.symm D1.lc)]; exact D1.c, Int.le_refl 0, fun i hi => D1.hl i (by simp [hi]), D1.hc, D1.ht, D1.lc⟩
      refine ⟨_, rfl, gd, _, rfl, dp D2, last (D2.put (D1.hl z (by simp)) D1.ht) fun b o h1 h2 e => ?_⟩
      rw [upd_ne h1, upd_ne h2]
      exact k1 b o e
  · refine if_neg_of (by simpa using hr0) ?_
    exact last D fun b o _ _ e => e
end
end Bx
/-! the world of a law -/
namespace Bx
open PySem PySem.Spec L2
structure Ad where
  gd : Addr
  L : Addr
  C : Addr
  a : Addr
  T : List (Addr × Str)
  fnA : Nat → Addr
  clsA : Nat → Addr
  fld : Nat → Str
  hf : Nat → Bool
def WL (K : PySem.W.Frag) (d : Ad) : Wd where
  K := K
  Gh := fun a => a = d.gd ∨ a = d.L ∨ a = d.C ∨ ∃ p ∈ d.T, p.1 = a
  WI := fun F H => (∃ r t ls cs, DrawAt H d.gd d.L d.C r t ls cs) ∧ WIt d.T F H
  stab := fun F H F' H' h ff hg => by
    obtain ⟨⟨r, t, ls, cs, D⟩, hT⟩ := h
    refine ⟨⟨r, t, ls, cs, (hg _ (.inl rfl)).trans D.d, (hg _ (.inr (.inl rfl))).trans D.l, (hg _ (.inr (.inr (.inl rfl)))).trans D.c, D.hr, D.hl, D.hc, D.ht, D.lc⟩, fun p hp => ?_⟩
    obtain ⟨ps, h1, h2, h3⟩ := hT p hp
    refine ⟨ps, (hg _ (.inr (.inr (.inr ⟨p, hp, rfl⟩)))).trans h1, h2, fun pos cv hc => ?_⟩
    obtain ⟨c, e1, e2⟩ := h3 pos cv hc
    exact ⟨c, e1, ff _ _ e2⟩
  there := fun F H a h ha z => by
    obtain ⟨⟨r, t, ls, cs, D⟩, hT⟩ := h
    rcases ha with rfl | rfl | rfl | ⟨p, hp, rfl⟩
    · rw [D.d] at z; cases z
    · rw [D.l] at z; cases z
    · rw [D.c] at z; cases z
    · obtain ⟨ps, h1, _⟩ := hT p hp
      rw [h1] at z; cases z
  gd := d.gd
  scA := d.a
  fnA := d.fnA
  clsA := d.clsA
  fld := d.fld
  hf := d.hf
theorem lw_of (K : PySem.W.Frag) (d : Ad) : LamW (WL K d) d.T := by
  refine ⟨fun F H h => h.2, fun F H F' H' h ff hg hT => ⟨?_, hT⟩, fun p hp => .inr (.inr (.inr ⟨p, hp, rfl⟩))⟩
  obtain ⟨⟨r, t, ls, cs, D⟩, hT0⟩ := h
  have nt : ∀ a o, H a = some o → (∀ ps, o ≠ .tbl ps) → ∀ p ∈ d.T, p.1 ≠ a := fun a o e n p hp z => by
    obtain ⟨ps, h1, _⟩ := hT0 p hp
    rw [z, e] at h1
    exact n ps (Option.some.inj h1)
  exact ⟨r, t, ls, cs, (hg _ (.inl rfl) (nt _ _ D.d fun _ z => by cases z)).trans D.d, (hg _ (.inr (.inl rfl)) (nt _ _ D.l fun _ z => by cases z)).trans D.l, (hg _ (.inr (.inr (.inl rfl))) (nt _ _ D.c fun _ z => by cases z)).trans D.c, D.hr, D.hl, D.hc, D.ht, D.lc⟩
section
variable {P : Program} {w : World} {K : PySem.W.Frag} {mg : Str → Option Value} {base : Heap} {d : Ad}
theorem take_sp (vs : List V) (H : Hp) (Q : VK) (E : XK) (h : FSp (WL K d) 2 f__law_take vs H Q E) : spTake d.gd d.L d.C vs H Q E := by
  obtain ⟨_, F, ds, st, rl, hw⟩ := h
  unfold f__law_take at hw
  split at hw
  · rename_i n
    cases rl with
    | cons r1 rl =>
      cases rl with
      | cons r2 rl =>
        cases rl
        cases r1
        cases r2
        obtain ⟨hn, hq⟩ := hw
        have wi := st.wi
        refine ⟨n, rfl, hn, wi.1, fun i H' h0 h1 hD hk => ?_⟩
        obtain ⟨⟨r, t, ls, cs, D⟩, hT⟩ := wi
        have nt : ∀ p ∈ d.T, p.1 ≠ d.gd ∧ p.1 ≠ d.L := fun p hp => by
          obtain ⟨ps, e, _⟩ := hT p hp
          exact ⟨fun z => (by rw [z, D.d] at e; cases e), fun z => (by rw [z, D.l] at e; cases e)⟩
        have st' : St0 (WL K d) F H' := by
          refine ⟨fun a o e => hk a o (fun z => ?_) (fun z => ?_) (st.fh _ _ e), ⟨hD, fun p hp => ?_⟩, st.gh⟩
          · have := st.gh a (.inl z); rw [e] at this; cases this
          · have := st.gh a (.inr (.inl z)); rw [e] at this; cases this
          · obtain ⟨ps, e1, e2, e3⟩ := hT p hp
            exact ⟨ps, hk _ _ (nt p hp).1 (nt p hp).2 e1, e2, e3⟩
        exact hq i h0 h1 (.int i) F H' [] ⟨Same.refl F, st', fun a o e ng => hk a o (fun z => ng (.inl z)) (fun z => ng (.inr (.inl z))) e, fun _ _ _ n => n⟩ (.fz (.int i)) (fun _ z => absurd z (by simp)) List.nodup_nil
  · exact hw.elim
theorem take_c {k : Nat} {f fm : Addr} {cdv cm : Value} (Lk : LkF K mg "_law_take" (top 32) f cdv) (Lm : LkF K mg "_law_mixed" st__law_mixed fm cm) (g_int : mg "int" = none) : FnC (WL K d) P w K mg base false (k + 2) "_law_take" f ["_law_draw", "_law_amount"] [] f__law_take := by
  obtain ⟨fdm, Mx, Bm⟩ := mix_ok (P := P) (w := w) (base := base) (gd := d.gd) (L := d.L) (C := d.C) (k := k) Lm g_int
  obtain ⟨fd, Tk, Bt⟩ := take_ok (P := P) (w := w) (base := base) (gd := d.gd) (L := d.L) (C := d.C) (k := k + 1) Lk g_int Mx Bm Lm.gl Lm.kp
  exact ⟨⟨fd, k + 2, Nat.le_refl _, ⟨fun vs H Q E h => h.1, fun A outer s H args us vs Q E hg hr e0 hb rv h => Tk.run A outer s H args us vs Q E hg hr e0 hb rv (take_sp vs H Q E h)⟩, Bt, fun q hq => absurd hq (by simp)⟩, Lk.gl, Lk.kp⟩
/-- what _law_begun gives -/
theorem compL_ints {β : Type} (f : D → R (List β)) (g : Int → List β) (h : ∀ z, f (.int z) = .ret (g z)) : ∀ l : List Int, compL f (l.map D.int) = .ret (l.flatMap g)
  | [] => rfl
  | x :: xs => by
    rw [List.map_cons]
    unfold compL
    rw [h x, compL_ints f g h xs]
    rfl
theorem flat_one {α β : Type} (f : α → β) : ∀ l : List α, (l.flatMap fun z => [f z]) = l.map f
  | [] => rfl
  | z :: l => by rw [List.flatMap_cons, List.map_cons, flat_one f l]; rfl
theorem eC_ret {a : XE1} {r : XEs} {ρ : En} {m : M} {ms : List M} (h1 : a ρ = .ret m) (h2 : r ρ = .ret ms) : eC a r ρ = .ret (m :: ms) := by
  unfold eC
  rw [h1, h2]
  rfl
def largeOf (ns : List Int) : List Int := ns.flatMap fun z => if (10 ^ 18 : Int) ≤ (if z < 0 then -z else z) then [(if z < 0 then -z else z) - 10 ^ 18] else []
def cellsOf (ns : List Int) : List Int := ns.map fun z => if z < 0 then -z else z
theorem large_len : ∀ ns : List Int, (largeOf ns).length ≤ ns.length
  | [] => Nat.le_refl _
  | z :: ns => by
    have ih := large_len ns
    unfold largeOf at ih ⊢
    rw [List.flatMap_cons, List.length_append, List.length_cons]
    have h1 : ∀ (c : Prop) [Decidable c] (x : Int), (if c then [x] else []).length ≤ 1 := fun c _ x => by split <;> simp
    have := h1 ((10 ^ 18 : Int) ≤ (if z < 0 then -z else z)) ((if z < 0 then -z else z) - 10 ^ 18)
    omega
theorem large_map (ns : List Int) : (ns.flatMap fun z => if (10 ^ 18 : Int) ≤ (if z < 0 then -z else z) then [M.fz (.int ((if z < 0 then -z else z) - 10 ^ 18))] else []) = (largeOf ns).map fun z => M.fz (.int z) := by
  unfold largeOf
  rw [List.map_flatMap]
  congr 1
  funext z
  by_cases h : (10 ^ 18 : Int) ≤ (if z < 0 then -z else z)
  · rw [if_pos h, if_pos h]; rfl
  · rw [if_neg h, if_neg h]; rfl
theorem pow18 (ρ : En) : xO (opM .pow) (xC (.int 10)) (xC (.int 18)) ρ = .ret (.fz (.int (10 ^ 18))) := rfl
theorem abs_at (a b : Option M) (z : Int) : xB (arg1 absM) (eC (xV true 2) (eN)) [a, b, some (.fz (.int z))] = .ret (.fz (.int (if z < 0 then -z else z))) := rfl
theorem begun_eq (ns : List Int) (hn : ns.length ≤ 63) : f__law_begun [.scr ns] = .ret (.od [(.str "large", .fz (.lst ((largeOf ns).map .int))), (.str "rest", .fz (.int 0)), (.str "cells", .ol ((cellsOf ns).map fun z => .fz (.int z))), (.str "turn", .fz (.int 0))]) := by
  have e1 : ∀ (c : XTs) (e : XE1) (y x : Option M) (g : Int → List M), (∀ z, (do
        let b ← c [some (.fz (.scr ns)), y, some (.fz (.int z))]
        if b then do
          let m ← e [some (.fz (.scr ns)), y, some (.fz (.int z))]
          .ret [m]
        else .ret []) = R.ret (g z)) → (ns.flatMap g).length ≤ sz → xM [2] (.nm 2) (iScr (xV true 0)) c e [some (.fz (.scr ns)), y, x] = .ret (.ol (ns.flatMap g)) := fun c e y x g h hl => by
    unfold xM
    show (do
      let l ← (compL _ (ns.map D.int)).noerr
      lstR l) = _
    rw [compL_ints _ g fun z => h z]
    show lstR (ns.flatMap g) = _
    unfold lstR
    rw [if_pos (decide_eq_true hl)]
  have h63 : (63 : Nat) ≤ sz := by decide
  have s1 : (sS 1 (xM [2] (.nm 2) (iScr (xV true 0)) (tV (xO (cmpM .ge) (xB (arg1 absM) (eC (xV true 2) (eN))) (xO (opM .pow) (xC (.int 10)) (xC (.int 18))))) (xO (opM .sub) (xB (arg1 absM) (eC (xV true 2) (eN))) (xO (opM .pow) (xC (.int 10)) (xC (.int 18)))))) [some (.fz (.scr ns)), none, none] = .ret (.nx, [some (.fz (.scr ns)), some (.ol ((largeOf ns).map fun z => .fz (.int z))), none]) := by
    unfold sS
    have hB : ∀ z : Int, (do
        let b ← tV (xO (cmpM .ge) (xB (arg1 absM) (eC (xV true 2) (eN))) (xO (opM .pow) (xC (.int 10)) (xC (.int 18)))) [some (.fz (.scr ns)), none, some (.fz (.int z))]
        if b then do
          let m ← (xO (opM .sub) (xB (arg1 absM) (eC (xV true 2) (eN))) (xO (opM .pow) (xC (.int 10)) (xC (.int 18)))) [some (.fz (.scr ns)), none, some (.fz (.int z))]
          .ret [m]
        else .ret []) = R.ret (if (10 ^ 18 : Int) ≤ (if z < 0 then -z else z) then [M.fz (.int ((if z < 0 then -z else z) - 10 ^ 18))] else []) := fun z => by
      have t1 : tV (xO (cmpM .ge) (xB (arg1 absM) (eC (xV true 2) (eN))) (xO (opM .pow) (xC (.int 10)) (xC (.int 18)))) [some (.fz (.scr ns)), none, some (.fz (.int z))] = .ret (decide ((10 ^ 18 : Int) ≤ (if z < 0 then -z else z))) := rfl
      rw [t1]
      by_cases h : (10 ^ 18 : Int) ≤ (if z < 0 then -z else z)
      · rw [if_pos h, decide_eq_true h]
        rfl
      · rw [if_neg h, decide_eq_false h]
        rfl
    have hC : (ns.flatMap fun z => if (10 ^ 18 : Int) ≤ (if z < 0 then -z else z) then [M.fz (.int ((if z < 0 then -z else z) - 10 ^ 18))] else []).length ≤ sz := by
      rw [large_map, List.length_map]
      exact Nat.le_trans (large_len ns) (Nat.le_trans hn h63)
    rw [e1 _ _ none none _ hB hC, large_map]
    rfl
  have c1 : ∀ y : Option M, xM [2] (.nm 2) (iScr (xV true 0)) tY (xB (arg1 absM) (eC (xV true 2) (eN))) [some (.fz (.scr ns)), y, none] = .ret (.ol ((cellsOf ns).map fun z => .fz (.int z))) := fun y => by
    have hB : ∀ z : Int, (do
        let b ← tY [some (.fz (.scr ns)), y, some (.fz (.int z))]
        if b then do
          let m ← xB (arg1 absM) (eC (xV true 2) (eN)) [some (.fz (.scr ns)), y, some (.fz (.int z))]
          .ret [m]
        else .ret []) = R.ret [M.fz (.int (if z < 0 then -z else z))] := fun z => rfl
    have ec : (ns.flatMap fun z => [M.fz (.int (if z < 0 then -z else z))]) = (cellsOf ns).map fun z => M.fz (.int z) := by
      unfold cellsOf
      rw [List.map_map]
      exact flat_one _ ns
    have hC : (ns.flatMap fun z => [M.fz (.int (if z < 0 then -z else z))]).length ≤ sz := by
      rw [ec]
      unfold cellsOf
      rw [List.length_map, List.length_map]
      exact Nat.le_trans hn h63
    rw [e1 _ _ y none _ hB hC, ec]
  have td : toDs ((largeOf ns).map fun z => M.fz (.int z)) = (largeOf ns).map .int := by
    rw [← toDs_fz ((largeOf ns).map .int), List.map_map]
    rfl
  unfold f__law_begun fnR m__law_begun
  show (do
    let p ← sC _ _ [some (.fz (.scr ns)), none, none]
    retR p) = _
  rw [sC_nx s1]
  have s2 : (sZ [1] (sR (xD ["large", "rest", "cells", "turn"] (eC (xV false 1) (eC (xC (.int 0)) (eC (xM [2] (.nm 2) (iScr (xV true 0)) (tY) (xB (arg1 absM) (eC (xV true 2) (eN)))) (eC (xC (.int 0)) (eN)))))))) [some (.fz (.scr ns)), some (.ol ((largeOf ns).map fun z => .fz (.int z))), none] =
      .ret (.rt (.od [(.str "large", .fz (.lst ((largeOf ns).map .int))), (.str "rest", .fz (.int 0)), (.str "cells", .ol ((cellsOf ns).map fun z => .fz (.int z))), (.str "turn", .fz (.int 0))]), [some (.fz (.scr ns)), some (.fz (.lst ((largeOf ns).map .int))), none]) := by
    unfold sZ
    rw [show frzEs [1] [some (.fz (.scr ns)), some (.ol ((largeOf ns).map fun z => .fz (.int z))), none] = [some (.fz (.scr ns)), some (.fz (.lst (toDs ((largeOf ns).map fun z => .fz (.int z))))), none] from rfl, td]
    have ev : (eC (xV false 1) (eC (xC (.int 0)) (eC (xM [2] (.nm 2) (iScr (xV true 0)) (tY) (xB (arg1 absM) (eC (xV true 2) (eN)))) (eC (xC (.int 0)) (eN))))) [some (.fz (.scr ns)), some (.fz (.lst ((largeOf ns).map .int))), none] = .ret [.fz (.lst ((largeOf ns).map .int)), .fz (.int 0), .ol ((cellsOf ns).map fun z => .fz (.int z)), .fz (.int 0)] := by
      exact eC_ret rfl (eC_ret rfl (eC_ret (c1 _) (eC_ret rfl rfl)))
    unfold sR xD
    rw [ev]
    rfl
  unfold sC
  rw [s2]
  rfl
end
end Bx
/-! a law: its first statement, then its meaning -/
namespace Bx
open PySem PySem.Spec L2
theorem repMK_inv {W : Wd} {F H : Hp} {A : List Addr} {kvs : List (Key × V)} {ds : List (D × M)} (h : RepMK W F H A kvs ds) : ∀ d m ms, ds = (d, m) :: ms → ∃ k v vs A1 A2, kvs = (k, v) :: vs ∧ A = A1 ++ A2 ∧ keyD k = d ∧ RepM W F H A1 v m ∧ RepMK W F H A2 vs ms := by
  intro d m ms e
  cases h with
  | nil => cases e
  | cons a b => cases e; exact ⟨_, _, _, _, _, rfl, rfl, rfl, a, b⟩
theorem repMK_nil {W : Wd} {F H : Hp} {A : List Addr} {kvs : List (Key × V)} {ds : List (D × M)} (h : RepMK W F H A kvs ds) : ds = [] → kvs = [] := by
  intro e
  cases h with
  | nil => rfl
  | cons a b => cases e
theorem keyD_str {k : Key} {z : Str} (h : keyD k = .str z) : k = .inr z := by
  cases k with
  | inl i => cases h
  | inr y => cases h; rfl
theorem large_pos (ns : List Int) : ∀ i ∈ largeOf ns, 0 ≤ i := fun i hi => by
  unfold largeOf at hi
  obtain ⟨z, _, hz⟩ := List.mem_flatMap.mp hi
  by_cases h : (10 ^ 18 : Int) ≤ (if z < 0 then -z else z)
  · rw [if_pos h] at hz
    have := List.mem_singleton.mp hz
    omega
  · rw [if_neg h] at hz
    cases hz
theorem cells_pos (ns : List Int) : ∀ i ∈ cellsOf ns, 0 ≤ i := fun i hi => by
  unfold cellsOf at hi
  obtain ⟨z, _, rfl⟩ := List.mem_map.mp hi
  split <;> omega
/-- what _law_begun leaves -/
theorem begun_at {K : PySem.W.Frag} {a : Addr} {F H : Hp} {A : List Addr} {v : V} {ns : List Int} (st : St0 (Wt K a) F H) (r : RepM (Wt K a) F H A v (.od [(.str "large", .fz (.lst ((largeOf ns).map .int))), (.str "rest", .fz (.int 0)), (.str "cells", .ol ((cellsOf ns).map fun z => .fz (.int z))), (.str "turn", .fz (.int 0))])) :
    ∃ gd L C, v = .ref gd ∧ DrawAt H gd L C 0 0 (largeOf ns) (cellsOf ns) ∧ gd ∈ A ∧ C ∈ A ∧ ∃ xs, F L = some (.lst xs) := by
  cases r with
  | odT h1 h2 h3 h4 =>
    cases h4
  | @odK gd As kvs _ h1 h2 h3 h4 =>
    obtain ⟨k1, v1, vs1, B1, C1, rfl, rfl, e1, r1, t1⟩ := repMK_inv h4 _ _ _ rfl
    obtain ⟨k2, v2, vs2, B2, C2, rfl, rfl, e2, r2, t2⟩ := repMK_inv t1 _ _ _ rfl
    obtain ⟨k3, v3, vs3, B3, C3, rfl, rfl, e3, r3, t3⟩ := repMK_inv t2 _ _ _ rfl
    obtain ⟨k4, v4, vs4, B4, C4, rfl, rfl, e4, r4, t4⟩ := repMK_inv t3 _ _ _ rfl
    obtain rfl := repMK_nil t4 rfl
    obtain rfl := keyD_str e1
    obtain rfl := keyD_str e2
    obtain rfl := keyD_str e3
    obtain rfl := keyD_str e4
    obtain rfl := int_rep r2
    obtain rfl := int_rep r4
    cases r1 with
    | fz r1 =>
      cases r1 with
      | @lst L xs _ hL hl =>
        obtain rfl := RepL.of_ints hl
        cases r3 with
        | @ol C As3 ys _ hC fC gC hc =>
          have hc' : RepMs (Wt K a) F H As3 ys (((cellsOf ns).map D.int).map M.fz) := by
            rw [List.map_map]
            exact hc
          obtain rfl := RepL.of_ints (RepMs.of_fz hc').1
          exact ⟨gd, L, C, rfl, ⟨h1, st.fh _ _ hL, hC, Int.le_refl 0, large_pos ns, cells_pos ns, Int.le_refl 0, fun z => by rw [z, fC] at hL; cases hL⟩, by simp, by simp, _, hL⟩
/-- the promise of law -/
def spLaw (K : PySem.W.Frag) (T : List (Addr × Str)) : Sp := fun vs H Q _ => ∃ (a : Addr) (ns : List Int), vs = [.ref a] ∧ ns.length ≤ 63 ∧ SqL K H a (ns.map V.int) ∧ (∀ p ∈ T, H p.1 = some (.tbl #[])) ∧ (∀ b o, H b = some o → (∃ ps, o = .tbl ps) ∨ ∃ ob xs, o = .frz ob xs) ∧ ∀ H', Q (.bl true) H'
theorem slots_none {W : Wd} {F H : Hp} : ∀ m, Slots W F H [] (List.replicate m none) (List.replicate m none)
  | 0 => .nil
  | m + 1 => .non (slots_none m)
/-- what is left of a law: its meaning is True, whatever is drawn -/
structure LawHolds (m : XS) (n : Nat) : Prop where
  ex : ∀ ns : List Int, ns.length ≤ 63 → (m (some (.fz (.scr ns)) :: some (.fz .draw) :: List.replicate n none)).wp (fun p => p.1 = .rt (.fz (.bl true))) (fun _ => False)
theorem law_fn {P : Program} {w : World} {K : PySem.W.Frag} {mg : Str → Option Value} {base : Heap} {k n : Nat} {st : Stmt} {f ab : Addr} {cdv : Value} {N : List Str} {m : XS} {T : List (Addr × Str)} {fnA clsA : Nat → Addr} {fld : Nat → Str} {hf : Nat → Bool} {rest : List Stmt} {p1 p2 p3 p4 p5 : Pos}
    (Lk : LkF K mg "law" st f cdv) (S : FnScope N ["_law_script"] (defScope st)) (hN : N.length = n + 2) (hbd : defBody st = .Assign [.Name "_law_draw" p1] (.Call (.Name "_law_begun" p2) [.Name "_law_script" p3] [] p4) p5 :: rest)
    (n0 : N[0]? = some ("_law_script" : Str)) (n1 : N[1]? = some ("_law_draw" : Str)) (v0 : Vis (defScope st) "_law_script") (l1 : Loc (defScope st) "_law_draw") (gb : (defScope st).names.lookup ("_law_begun" : Str) = some .globalImplicit)
    (hsw : ∀ env : Env, swapsWith (.Call (.Name "_law_begun" p2) [.Name "_law_script" p3] [] p4) (some (.Name "_law_draw" p1)) p5.line env = pure false)
    (CB : ∀ a, FnC (Wt K a) P w K mg base false (k + 2) "_law_begun" ab ["_law_script"] [] f__law_begun)
    (PL : ∀ (gd L C a : Addr) (E : XK) (A : Around) (outer : List Env) (s : Shared) (H : Hp), Ok (cxOf (L2.CX P w) P w K mg base N "law" (defScope st) f cdv A outer s H E) (WL K ⟨gd, L, C, a, T, fnA, clsA, fld, hf⟩) (Wk0 E) (k + 2) true →
      PSs (cxOf (L2.CX P w) P w K mg base N "law" (defScope st) f cdv A outer s H E) rest (ST (WL K ⟨gd, L, C, a, T, fnA, clsA, fld, hf⟩) E m))
    (hlaw : LawHolds m n) :
    ∃ fd, FnG true P w K mg base (k + 3) f fd ["_law_script"] (spLaw K T) ∧ ∃ oc kV doc pm ct od an osl, K.lookup f = some ⟨oc, od, .func fd, osl⟩ ∧ fd = PySem.W.fnOf "law" "law" (defArgs st) (defBody st) (defScope st) .none kV doc pm an cdv ct := by
  obtain ⟨⟨oc, kV, doc, pm, ct, od, an, osl, lk⟩, cd, gl, kp⟩ := Lk
  refine ⟨_, ⟨fun vs H Q E h => by obtain ⟨a, ns, e, _⟩ := h; rw [e]; rfl, fun A outer s H args us vs Q E hgs hr e0 hb rv h => ?_⟩, oc, kV, doc, pm, ct, od, an, osl, lk, rfl⟩
  refine LamX.run_ofS (k := k + 2) lk cd S hr e0 hb rv (by obtain ⟨a, ns, e, _⟩ := h; rw [e]; rfl) fun hr' => ?_
  obtain ⟨a, ns, rfl, hns, hS, hT, hO, hq⟩ := h
  have tk : Takes (cxOf (L2.CX P w) P w K mg base N "law" (defScope st) f cdv A outer s H E) (Wk0 E) := takes_of rfl rfl rfl rfl
  have oT : Ok (cxOf (L2.CX P w) P w K mg base N "law" (defScope st) f cdv A outer s H E) (Wt K a) (Wk0 E) (k + 2) false := ⟨rfl, rfl, hr', tk, fun z => nomatch z⟩
  rw [hbd]
  refine ⟨tSeq (tAsg (XT (Wt K a) (Wk0 E) false (xF f__law_begun 1 (eC (xV false 0) eN))) (gName 1)) (fun D σ H' => ∃ gd L C, ST (WL K ⟨gd, L, C, a, T, fnA, clsA, fld, hf⟩) E m D σ H'), pss_cons (ps_set (i := 1) S.nd n1 l1 (w_call oT (CB a) (a_c (w_var 0 n0 v0) a_n) (len_c len_n) rfl gb) (hsw _) (.inl rfl)) ⟨fun pins s' σ H' D I h => ?_⟩, ?_⟩
  · obtain ⟨gd, L, C, h⟩ := h
    exact (PL gd L C a E A outer s H ⟨rfl, rfl, hr', tk, hgs⟩).run pins s' σ H' D I h
  · have hst : L2.start N [V.ref a] = some (.ref a) :: none :: List.replicate n none := by
      unfold L2.start
      rw [hN]
      rfl
    have hst2 : (L2.start N [V.ref a]).length = n + 2 := by rw [hst]; simp
    rw [hst]
    refine ⟨H, [], some (.fz (.scr ns)) :: none :: List.replicate n none, ⟨st_t (Same.refl H), .som (A := []) (.fz (.scr hS)) (.non (slots_none n)), List.nodup_nil⟩, ?_⟩
    rw [show xF f__law_begun 1 (eC (xV false 0) eN) (some (.fz (.scr ns)) :: none :: List.replicate n none) = f__law_begun [.scr ns] from rfl, begun_eq ns hns]
    intro v F' H' A' g r o
    obtain ⟨gd, L, C, rfl, DA, hgd, hC, xs, hL⟩ := begun_at g.st r
    have kp1 : ∀ b o, H b = some o → H' b = some o := fun b o e => g.keep b o e id
    have nL : H L = none := by
      cases e : H L with
      | none => rfl
      | some o =>
        have e2 := kp1 L o e
        rw [g.st.fh _ _ hL] at e2
        cases e2
        rcases hO L _ e with ⟨ps, z⟩ | ⟨ob, ys, z⟩ <;> cases z
    have ngd := o.fresh gd hgd
    have nC := o.fresh C hC
    refine ⟨gd, L, C, ?_⟩
    classical
    have hF : ∀ b, (∃ p ∈ T, p.1 = b) → H b = some (.tbl #[]) := fun b ⟨p, hp, e⟩ => by rw [← e]; exact hT p hp
    refine ⟨fun b => if ∃ p ∈ T, p.1 = b then none else H b, [], some (.fz (.scr ns)) :: some (.fz .draw) :: List.replicate n none, ⟨⟨fun b u e => ?_, ⟨⟨_, _, _, _, DA⟩, fun p hp => ⟨#[], kp1 _ _ (hT p hp), trivial, fun pos cv hc => ?_⟩⟩, fun b hb => ?_⟩, .som (A := []) (.fz (.scr ?_)) (.som (A := []) (.fz .draw) (slots_none n)), List.nodup_nil⟩, R.wp_mono (fun p hp F2 H2 A2 sp s2 => ?_) (fun e q => q.elim) (hlaw.ex ns hns)⟩
    · split at e
      · cases e
      · exact kp1 b u e
    · have z : codeAmong pos [] = some cv := hc
      simp [codeAmong] at z
    · split
      · rfl
      · rename_i hn
        rcases hb with rfl | rfl | rfl | z
        · exact ngd
        · exact nL
        · exact nC
        · exact absurd z hn
    · rcases hS with hS | hS
      · have keep : ∀ u, H a = some u → (∀ ps, u ≠ .tbl ps) → (if ∃ p ∈ T, p.1 = a then none else H a) = some u := fun u e ne => by
          rw [if_neg fun z => ?_]
          · exact e
          · have := hF a z
            rw [e] at this
            exact ne _ (Option.some.inj this)
        rcases hS with e | ⟨ob, e⟩
        · exact .inl (.inl (keep _ e fun _ z => by cases z))
        · exact .inl (.inr ⟨ob, keep _ e fun _ z => by cases z⟩)
      · exact .inr hS
    · obtain ⟨fl, ρ'⟩ := p
      have hp : fl = .rt (.fz (.bl true)) := hp
      subst hp
      intro v rv _
      rw [bl_rep rv]
      exact hq H2
end Bx
namespace Bx
open PySem PySem.Spec L2
/-- whatever is drawn, the value is good -/
def okT {α : Type} (P : α → Bool) : R α → Bool
  | .ret a => P a
  | .take n k => decide (0 < n) && decide (n < 1073741824) && (List.range n.toNat).all fun i => okT P (k (i : Nat))
  | _ => false
theorem okT_wp {α : Type} {P : α → Bool} {E : Er → Prop} : ∀ {r : R α}, okT P r = true → Wp r (fun a => P a = true) E
  | .ret a, h => .ret h
  | .take n k, h => by
    simp only [okT, Bool.and_eq_true, decide_eq_true_eq, List.all_eq_true, List.mem_range] at h
    refine .take h.1.1 h.1.2 fun i h0 h1 => okT_wp ?_
    have := h.2 i.toNat (by omega)
    rwa [Int.toNat_of_nonneg h0] at this
  | .err _, h => by cases h
  | .bad, h => by cases h
def goodP : M → Bool
  | .fz (.tup [.str _, d]) => match reprD (.ol [.fz d, .fz d]) with
    | .ret (.fz (.str _)) => true
    | _ => false
  | _ => false
theorem goodP_inv {m : M} (h : goodP m = true) : ∃ w d z, m = .fz (.tup [.str w, d]) ∧ reprD (.ol [.fz d, .fz d]) = .ret (.fz (.str z)) := by
  unfold goodP at h
  split at h
  · rename_i w d
    split at h
    · rename_i z e
      exact ⟨w, d, z, rfl, e⟩
    · cases h
  · cases h
def scrD (ns : List Int) : Option M := some (.fz (.scr ns))
def drD : Option M := some (.fz .draw)
def pickX : XE1 := xT (eC (xF f__law_pick 2 (eC (xV false 1) (eC (xL (eC (xC (.str "")) (eC (xC (.str "w")) (eC (xC (.str "nothing of the kind")) (eN))))) (eN)))) (eC (xF f__law_any 1 (eC (xV false 1) (eN))) (eN)))
theorem picks (ns : List Int) : okT goodP (pickX [scrD ns, drD, none, none, none, none, none, none, none, none, none]) = true := by kernel_rfl
def threesL (d : D) : List M := [2, 9, 14, 25, 26].map fun c => M.fz (.tup [.exc c d, d, d])
def errsD (d : D) : List D := ([1, 3, 4, 5, 6, 7, 8, 10, 11, 12, 13, 15, 16, 17, 18, 19, 20, 21, 22, 23, 24, 27].map fun c => D.exc c .non) ++ [2, 9, 14, 25, 26].map fun c => D.exc c d
def loopX : XS := (sF (some 3) (.tp [.nm 7, .nm 8]) (iE (xV false 3)) (sC (sZ [8] (sI (tV (xO (cmpM .ne) (xF f__law_kinds 1 (eC (xV false 8) (eN))) (xM [10] (.nm 10) (iR1 (xC (.int 27))) (tY) (xO (cmpM .eq) (xV true 10) (xV true 7))))) (sC (sR (xC (.bl false)))
    (sN)) (sN)))
    (sC (sI (tOr (tNot (tV (xU (isoM sub_BoxError) (xV true 8)))) (tNot (tV (xU (isbM sub_ValueError) (xV true 8))))) (sC (sR (xC (.bl false)))
    (sN)) (sN))
    (sN))))
theorem st2 (ns : List Int) (w : Str) (d : D) : sZ [6] (sS 2 (xF f__law_errors_of 1 (eC (xV false 6) (eN)))) [scrD ns, drD, none, none, none, some (.fz (.str w)), some (.fz d), none, none, none, none]
    = .ret (.nx, [scrD ns, drD, some (.ol (threesL d)), none, none, some (.fz (.str w)), some (.fz d), none, none, none, none]) := by kernel_rfl
theorem st3 (ns : List Int) (w : Str) (d : D) : sZ [5] (sS 3 (xO (opM .add) (xF f__law_plain_errors 1 (eC (xV false 5) (eN))) (xM [9] (.nm 9) (iV (xV true 2)) (tY) (xI false (xV true 9) (xC (.int 0)))))) [scrD ns, drD, some (.ol (threesL d)), none, none, some (.fz (.str w)), some (.fz d), none, none, none, none]
    = .ret (.nx, [scrD ns, drD, some (.ol (threesL d)), some (.ol ((errsD d).map M.fz)), none, some (.fz (.str w)), some (.fz d), none, none, none, none]) := by kernel_rfl
theorem st4 (ns : List Int) (w : Str) (d : D) : sZ [3] loopX [scrD ns, drD, some (.ol (threesL d)), some (.ol ((errsD d).map M.fz)), none, some (.fz (.str w)), some (.fz d), none, none, none, none]
    = .ret (.nx, [scrD ns, drD, some (.ol (threesL d)), some (.fz (.lst (errsD d))), none, some (.fz (.str w)), some (.fz d), some (.fz (.int 26)), some (.fz (.exc 26 d)), none, none]) := by kernel_rfl
theorem reprD_at {d : D} {z : Str} (h : reprD (.ol [.fz d, .fz d]) = .ret (.fz (.str z))) {e : XEs} {ρ : En} (he : e ρ = .ret [.ol [.fz d, .fz d]]) : xB (arg1 reprD) e ρ = .ret (.fz (.str z)) := by
  unfold xB
  rw [he]
  exact h
theorem tv_ne {a b : XE1} {ρ : En} {z : Str} (ha : a ρ = .ret (.fz (.str z))) (hb : b ρ = .ret (.fz (.str z))) : tV (xO (cmpM .ne) a b) ρ = .ret false := by
  unfold tV xO
  rw [ha, R.ret_bind, hb, R.ret_bind]
  show (mB (!decide (z = z)) >>= truM) = _
  rw [decide_eq_true rfl]
  rfl
def condX : XTs := tV (xO (cmpM .ne) (xB (arg1 reprD) (eC (xL (eC (xI false (xV true 9) (xC (.int 1))) (eC (xI false (xV true 9) (xC (.int 2))) (eN)))) (eN))) (xB (arg1 reprD) (eC (xL (eC (xV false 6) (eC (xV false 6) (eN)))) (eN))))
theorem cond_at {ns : List Int} {w : Str} {d : D} {z : Str} (h : reprD (.ol [.fz d, .fz d]) = .ret (.fz (.str z))) (c : Nat) :
    condX [scrD ns, drD, some (.ol (threesL d)), some (.fz (.lst (errsD d))), none, some (.fz (.str w)), some (.fz d), some (.fz (.int 26)), some (.fz (.exc 26 d)), some (.fz (.tup [.exc c d, d, d])), none] = .ret false :=
  tv_ne (reprD_at h (by kernel_rfl)) (reprD_at h (by kernel_rfl))
def compX : XE1 := xM [9] (.nm 9) (iV (xV true 2)) condX (xC (.int 1))
theorem compL_no {α β : Type} {f : α → R (List β)} : ∀ {l : List α}, (∀ x ∈ l, f x = .ret []) → compL f l = .ret []
  | [], _ => rfl
  | x :: l, h => by
    unfold compL
    rw [h x (by simp), R.ret_bind, compL_no (fun y hy => h y (by simp [hy]))]
    rfl
theorem comp_at {ns : List Int} {w : Str} {d : D} {z : Str} (h : reprD (.ol [.fz d, .fz d]) = .ret (.fz (.str z))) :
    compX [scrD ns, drD, some (.ol (threesL d)), some (.fz (.lst (errsD d))), none, some (.fz (.str w)), some (.fz d), some (.fz (.int 26)), some (.fz (.exc 26 d)), none, none] = .ret (.ol []) := by
  unfold compX xM
  rw [show iV (xV true 2) [scrD ns, drD, some (.ol (threesL d)), some (.fz (.lst (errsD d))), none, some (.fz (.str w)), some (.fz d), some (.fz (.int 26)), some (.fz (.exc 26 d)), none, none] = .ret ([2, 9, 14, 25, 26].map fun c => D.tup [.exc c d, d, d]) from by kernel_rfl, R.ret_bind, compL_no]
  · rfl
  · intro x hx
    obtain ⟨c, hc, rfl⟩ := List.mem_map.mp hx
    refine Eq.trans (b := (condX [scrD ns, drD, some (.ol (threesL d)), some (.fz (.lst (errsD d))), none, some (.fz (.str w)), some (.fz d), some (.fz (.int 26)), some (.fz (.exc 26 d)), some (.fz (.tup [.exc c d, d, d])), none] >>= fun b => if b then (R.ret (M.fz (.int 1)) >>= fun m => R.ret [m]) else R.ret [])) (by kernel_rfl) ?_
    rw [cond_at h]
    rfl
theorem st5 {ns : List Int} {w : Str} {d : D} {z : Str} (h : reprD (.ol [.fz d, .fz d]) = .ret (.fz (.str z))) :
    tV (xO (cmpM .ne) compX (xL eN)) [scrD ns, drD, some (.ol (threesL d)), some (.fz (.lst (errsD d))), none, some (.fz (.str w)), some (.fz d), some (.fz (.int 26)), some (.fz (.exc 26 d)), none, none] = .ret false := by
  unfold tV xO
  rw [comp_at h]
  rfl
theorem LawHolds.of {m : XS} {n : Nat} (h : ∀ ns : List Int, ns.length ≤ 63 → Wp (m (some (.fz (.scr ns)) :: some (.fz .draw) :: List.replicate n none)) (fun p => p.1 = .rt (.fz (.bl true))) (fun _ => False)) : LawHolds m n := ⟨fun ns hn => (h ns hn).ex⟩
end Bx
namespace Bx
open PySem PySem.Spec L2
theorem sN_seq {a b : XS} {ρ ρ' : En} (h : a ρ = .ret (.nx, ρ')) : sC a b ρ = b ρ' := by
  unfold sC
  rw [h]
  rfl
theorem law_holds : LawHolds m_law 9 := by
  refine .of fun ns hn => ?_
  refine .eq (r' := m_law [scrD ns, drD, none, none, none, none, none, none, none, none, none]) (by kernel_rfl) ?_
  unfold m_law
  refine wsC (wsZ (Wp.bind (.imp (okT_wp (P := goodP) (picks ns)) fun m hm => ?_)))
  obtain ⟨w, d, z, rfl, hz⟩ := goodP_inv hm
  refine .eq (r' := R.ret (.nx, [scrD ns, drD, none, none, none, some (.fz (.str w)), some (.fz d), none, none, none, none])) (by kernel_rfl) (.ret ?_)
  refine .eq (sN_seq (st2 ns w d)) (.eq (sN_seq (st3 ns w d)) (.eq (sN_seq (st4 ns w d)) ?_))
  refine wNo (ρ' := [scrD ns, drD, some (.ol (threesL d)), some (.fz (.lst (errsD d))), none, some (.fz (.str w)), some (.fz d), some (.fz (.int 26)), some (.fz (.exc 26 d)), none, none]) (by kernel_rfl) (w_ret (st5 hz) ⟨rfl, ?_⟩)
  exact .eq (r' := R.ret (.rt (.fz (.bl true)), [scrD ns, drD, some (.ol (threesL d)), some (.fz (.lst (errsD d))), some (.fz (.exc 0 .non)), some (.fz (.str w)), some (.fz d), some (.fz (.int 26)), some (.fz (.exc 26 d)), none, none])) (by kernel_rfl) (.ret rfl)
end Bx
/-! the end: law called by the row -/
namespace Bx
open PySem PySem.Spec PyProof.Rows L2 LamX
/-- what is known at law's call: the script's list (where the written part has it not), the tables -/
def hSc (K : PySem.W.Frag) (a : Addr) (lo : Obj) (ns : List Int) (ts : List Addr) : Hp := fun b =>
  if b ∈ ts then some (.tbl #[]) else if b = a ∧ K.lookup a = none then some (.frz lo (.lst (ns.map V.int))) else none
theorem hSc_cases {K : PySem.W.Frag} {a : Addr} {lo : Obj} {ns : List Int} {ts : List Addr} {b : Addr} {o : HO} (h : hSc K a lo ns ts b = some o) : (b ∈ ts ∧ o = .tbl #[]) ∨ (b ∉ ts ∧ b = a ∧ K.lookup a = none ∧ o = .frz lo (.lst (ns.map V.int))) := by
  unfold hSc at h
  by_cases h1 : b ∈ ts
  · rw [if_pos h1] at h; cases h; exact .inl ⟨h1, rfl⟩
  · rw [if_neg h1] at h
    by_cases h2 : b = a ∧ K.lookup a = none
    · rw [if_pos h2] at h; cases h; exact .inr ⟨h1, h2.1, h2.2, rfl⟩
    · rw [if_neg h2] at h; cases h
theorem law_callG {P : Program} {w : World} {K : PySem.W.Frag} {mg mb : Str → Option Value} {k : Nat} {fa a : Addr} {cs : List (Addr × Addr)} {fd : FuncData} {x : Str} {sp : Sp} {s : Shared} {vs : List Value} {ns : List Int}
    (KX : K.In s.heap) (hG : s.heap.Ns mainGlobals mg) (hB : s.heap.Ns builtinsNs mb) (hbb : ∀ x : Str, x ≠ "__name__" → mb x = bootBuiltins x) (hlim : s.heap.NoLimit) (hgen : s.gens = #[])
    (hT : ∀ p ∈ cs, s.heap.get? p.2 = some { cls := .none, data := .fields #[] }) (nT : ∀ p ∈ cs, K.lookup p.2 = none) (hC : ∀ p ∈ cs, PySem.W.CodeHd s.heap p.1 p.2)
    (hbm : ∃ (bm : Addr) (ob : Obj), mg "__builtins__" = some (.ref bm) ∧ bm ≠ builtinsNs ∧ s.heap.get? bm = some ob ∧ ob.cls = .type "module" ∧ ob.dict = some builtinsNs ∧ ob.data = .plain)
    (ha : s.heap.get? a = some { cls := .type "list", data := .seq vs.toArray }) (hi : IntsAre vs ns) (hl : ns.length ≤ sizeLine) (hr : Room k callerA)
    (Fn : ∀ base : Heap, K.In base → base.Ns mainGlobals mg → (∀ p ∈ cs, TabB base mg p.1 p.2) → FnG true P w K mg base k fa fd [x] sp) (hbind : ∀ (s : Shared) (u : Value), BindsTo s fd ⟨[u], []⟩ [(x, u)])
    (hsp : ∀ H : Hp, (∀ p ∈ cs, H p.2 = some (.tbl #[])) → SqL K H a (ns.map V.int) → (∀ b o, H b = some o → (∃ ps, o = .tbl ps) ∨ ∃ ob xs, o = .frz ob xs) → sp [.ref a] H (fun v _ => v = .bl true) fun _ _ _ => False) :
    codeAny (model P w) callerA (.call (.ref fa) ⟨[.ref a], []⟩) (fun r s' => r = .ok (.ret (.bool true)) ∧ OldK s.heap s'.heap ∧ s'.os = s.os ∧ AllBare s'.gens) s := by
  have rv := vals_ints hi
  have lv := hi.length
  let ts := cs.map (·.2)
  let lo : Obj := { cls := .type "list", data := .seq vs.toArray }
  let H := hSc K a lo ns ts
  have tbl : ∀ b ∈ ts, s.heap.get? b = some { cls := .none, data := .fields #[] } := fun b hb => by
    obtain ⟨p, hp, rfl⟩ := List.mem_map.mp hb
    exact hT p hp
  have aT : a ∉ ts := fun z => by
    have q := (tbl a z).symm.trans ha
    cases q
  have inT : ∀ p ∈ cs, p.2 ∈ ts := fun p hp => List.mem_map.mpr ⟨p, hp, rfl⟩
  have hH : ∀ p ∈ cs, H p.2 = some (.tbl #[]) := fun p hp => if_pos (inT p hp)
  have kind : ∀ {b : Addr} {o : HO}, H b = some o → ∃ ob, s.heap.get? b = some ob ∧ (ob.data = .fields #[] ∨ ob.data = .seq vs.toArray) := fun {b o} e => by
    rcases hSc_cases e with ⟨h1, _⟩ | ⟨_, rfl, _, _⟩
    · exact ⟨_, tbl b h1, .inl rfl⟩
    · exact ⟨_, ha, .inr rfl⟩
  have free : ∀ {b : Addr} {ob : Obj}, s.heap.get? b = some ob → ob.data ≠ .fields #[] → ob.data ≠ .seq vs.toArray → H b = none := fun {b ob} e h1 h2 => by
    cases q : H b with
    | none => rfl
    | some o =>
      obtain ⟨ob2, e2, h3⟩ := kind q
      rw [e] at e2
      cases e2
      exact (h3.elim h1 h2).elim
  have hS : SqL K H a (ns.map V.int) := by
    cases hk : K.lookup a with
    | some o =>
      have e := KX a o hk
      rw [ha] at e
      cases e
      exact .inr ⟨_, vs.toArray, _, hk, rfl, rfl, rfl, by rw [List.size_toArray, lv]; exact hl, by simpa using rv⟩
    | none => exact .inl (.inr ⟨lo, (if_neg aT).trans (if_pos ⟨rfl, hk⟩)⟩)
  have hok : HOk P w H s.heap := fun b u e => by
    rcases hSc_cases e with ⟨h1, rfl⟩ | ⟨_, rfl, _, rfl⟩
    · exact tbl b h1
    · exact ⟨ha, by rw [List.length_map]; exact hl, vs, _, rv, ha⟩
  -- the ground: all that is not known
  have up : ∀ {b : Addr} {o : Obj}, s.heap.get? b = some o → H b = none → (hidT s.heap H).get? b = some o := fun e n => hidT_get e n
  have upNs : ∀ {b : Addr} {m : Str → Option Value}, s.heap.Ns b m → (hidT s.heap H).Ns b m := fun {b m} z => by
    obtain ⟨o, es, ep, e, dd, r⟩ := z
    exact ⟨o, es, ep, up e (free e (by rw [dd]; exact fun z => by cases z) (by rw [dd]; exact fun z => by cases z)), dd, r⟩
  have upK : K.In (hidT s.heap H) := fun b o e => up (KX b o e) (by
    cases q : H b with
    | none => rfl
    | some u =>
      rcases hSc_cases q with ⟨h1, _⟩ | ⟨_, rfl, h2, _⟩
      · obtain ⟨p, hp, rfl⟩ := List.mem_map.mp h1
        rw [nT p hp] at e; cases e
      · rw [h2] at e; cases e)
  have upM : L2.Mod K mg (hidT s.heap H) := ⟨upK, upNs hG, ⟨mb, upNs hB, hbb⟩, by obtain ⟨mc, h1, h2⟩ := hlim; exact ⟨mc, upNs h1, h2⟩⟩
  have TB : ∀ p ∈ cs, TabB (hidT s.heap H) mg p.1 p.2 := fun p hp => by
    have tp := hT p hp
    refine ⟨?_, ?_, fun z => ?_⟩
    · obtain ⟨o, us, file, tf, flags, tg, inF, text, tt, e1, r1, r2, r3, r4, r5, r6, r7, r8, r9⟩ := hC p hp
      exact ⟨o, us, file, tf, flags, tg, inF, text, tt, up e1 (free e1 (fun z => by rw [r2] at z; cases z; simp at r3) (fun z => by rw [r2] at z; cases z)), r1, r2, r3, r4, r5, r6, r7, r8, r9⟩
    · obtain ⟨bm, ob, b1, b2, b3, b4, b5, b6⟩ := hbm
      have g1 : bm ≠ mainGlobals := fun q => by
        obtain ⟨o, es, ep, e, dd, _⟩ := hG
        rw [← q, b3] at e
        cases e
        rw [dd] at b6
        cases b6
      have g2 : bm ≠ p.2 := fun q => by
        rw [q, tp] at b3
        cases b3
        cases b6
      exact ⟨bm, ob, b1, b2, g1, g2, up b3 (free b3 (fun z => by rw [b6] at z; cases z) (fun z => by rw [b6] at z; cases z)), b4, b5, b6⟩
    · obtain ⟨o, es, ep, e, dd, _⟩ := hG
      rw [z, tp] at e
      cases e
      cases dd
  have e0 : Env0 P w K mg (hidT s.heap H) callerA [] s H := ⟨rfl, upM, fun b o e => of_hidT e, Nat.le_of_eq (hidT_size _ _), trivial, fun b hb => absurd (show b ∈ ([] : List Addr) from hb) (by simp), hok, .of_eq hgen⟩
  have hO : ∀ b o, H b = some o → (∃ ps, o = .tbl ps) ∨ ∃ ob xs, o = .frz ob xs := fun b o e => by
    rcases hSc_cases e with ⟨_, rfl⟩ | ⟨_, _, _, rfl⟩
    · exact .inl ⟨_, rfl⟩
    · exact .inr ⟨_, _, rfl⟩
  refine codeAny_mono ((Fn _ upK (upNs hG) TB).run callerA [] s H ⟨[.ref a], []⟩ [.ref a] [.ref a] _ _ (fun _ => rfl) hr e0 (hbind s (.ref a)) (.cons rfl .nil) (hsp H hH hS hO)) fun r s' h => ?_
  cases r with
  | error e =>
    obtain ⟨_, _, _, _, _, _, _, _, _, _, _, _, z⟩ := h
    exact z.elim
  | ok fl =>
    cases fl with
    | next => exact False.elim h
    | brk => exact False.elim h
    | cont => exact False.elim h
    | ret u =>
      obtain ⟨v, H', os, bare, un, hok', r', q⟩ := h
      have q' : v = .bl true := q
      subst q'
      obtain rfl : u = Value.bool true := r'
      have stay : ∀ b o, b ∉ ts → s.heap.get? b = some o → s'.heap.get? b = some o := fun b o nb e => by
        cases q : H b with
        | none => exact un.keep b o e q (by intro z; exact absurd (show b ∈ ([] : List Addr) from z) (by simp)) (by simp)
        | some u =>
          rcases hSc_cases q with ⟨h1, _⟩ | ⟨_, rfl, _, rfl⟩
          · exact absurd h1 nb
          · obtain ⟨e2, _⟩ := hok' b _ (un.frzs b lo _ q)
            rw [ha] at e
            cases e
            exact e2
      have more : ∀ p ∈ cs, ∃ m : Array Value, s'.heap.get? p.2 = some { cls := .none, data := .fields m } := fun p hp => by
        obtain ⟨m, z⟩ := un.tbls p.2 #[] (hH p hp)
        exact ⟨_, hok' p.2 _ z⟩
      refine ⟨rfl, ⟨fun b o e => ?_, fun b o e => ?_⟩, os, bare⟩
      · by_cases hb : b ∈ ts
        · obtain ⟨p, hp, rfl⟩ := List.mem_map.mp hb
          obtain ⟨m, hm⟩ := more p hp
          have e2 := (hT p hp).symm.trans e
          cases e2
          exact .inr (.inl ⟨((hC p hp).tab (hT p hp)).isCodeTable, rfl, #[], m, rfl, by rw [Array.empty_append]; exact hm⟩)
        · exact .inl (stay b o hb e)
      · by_cases hb : b ∈ ts
        · obtain ⟨p, hp, rfl⟩ := List.mem_map.mp hb
          obtain ⟨m, hm⟩ := more p hp
          exact ⟨_, hm⟩
        · exact ⟨o, stay b o hb e⟩
end Bx
namespace Bx
open PySem PySem.Spec PyProof.Rows L2 LamX
/-- the tables of the defs nl are empty -/
def TabsOf (K : PySem.W.Frag) (mg : Str → Option Value) (h : Heap) (nl : List Str) : Prop := ∀ x ∈ nl, ∀ (fa c P : Addr) (o : Obj) (fd : FuncData) (e : Value) (dd : Option Addr) (vs : Array Value) (sl : Array (Option Value)), mg x = some (.ref fa) → K.lookup fa = some o → o.data = .func fd → fd.code = .ref c →
  K.lookup c = some ⟨e, dd, .fields vs, sl⟩ → vs[11]? = some (.ref P) → h.get? P = some { cls := .none, data := .fields #[] }
/-- what is known of law at the head's heap -/
structure LawAtG (l : PySem.W.OpenLaw) (w : World) (K : PySem.W.Frag) (k n : Nat) (x : Str) (mg : Str → Option Value) (fa : Addr) (h : Heap) : Prop where
  ex : ∃ (fd : FuncData) (cs : List (Addr × Addr)) (sp : Sp), (∀ p ∈ cs, h.get? p.2 = some { cls := .none, data := .fields #[] }) ∧ (∀ p ∈ cs, K.lookup p.2 = none) ∧ (∀ p ∈ cs, PySem.W.CodeHd h p.1 p.2) ∧ (∀ (s : Shared) (u : Value), BindsTo s fd ⟨[u], []⟩ [(x, u)]) ∧
    (∀ (H : Hp) (a : Addr) (ns : List Int), ns.length ≤ n → (∀ p ∈ cs, H p.2 = some (.tbl #[])) → SqL K H a (ns.map V.int) → (∀ b o, H b = some o → (∃ ps, o = .tbl ps) ∨ ∃ ob xs, o = .frz ob xs) → sp [.ref a] H (fun v _ => v = .bl true) fun _ _ _ => False) ∧
    ∀ base : Heap, K.In base → base.Ns mainGlobals mg → (∀ p ∈ cs, TabB base mg p.1 p.2) → FnG true l.prog w K mg base k fa fd [x] sp
theorem walk_ofG {l : PySem.W.OpenLaw} {n k : Nat} {q : Program} {loose : List Str} {XP : (Str → Option Value) → Heap → Prop} {YP : World → Heap → Prop} {d : DefRec} {K : Params → PySem.W.Frag} {x : Str} {nl : List Str}
    (hn : l.most = some n) (hn2 : n ≤ sizeLine) (hdf : d.params.defaults = []) (hr : Room k callerA) (hrec : (nl.all fun y => (recsOf q).any fun e => e.name == y) = true) (hY : ∀ (w : World) (h : Heap), YP w h → (K w.params).In h)
    (F : ∀ (w : World) (mg : Str → Option Value) (fa : Addr) (h : Heap), YP w h → (K w.params).In h → h.Ns mainGlobals mg → mg d.name = some (.ref fa) → TabsOf (K w.params) mg h nl → LawAtG l w (K w.params) k n x mg fa h) :
    PySem.W.WalkO q loose XP YP l.row.toRowW d [] (fun f vs => PySem.call f vs) := by
  refine Att.attach_callB hn hdf fun w s₀ s₁ mg mb fa o pm cd doc a vs ns G Y ho hd hcd hmg hobj hints hlen hbits hg => ?_
  have KX := hY w _ Y
  have own : TabsOf (K w.params) mg s₁.heap nl := fun x hx fa c P o1 fd1 e dd vs1 sl k0 k1 k2 k3 k4 k5 => by
    obtain ⟨dL, hm, hn1⟩ := List.any_eq_true.mp (List.all_eq_true.mp hrec x hx)
    have en : dL.name = x := beq_iff_eq.mp hn1
    obtain ⟨a', o', fd', c', P', h1, h2, h3, h4, h5, h6⟩ := G.T.tab dL hm
    rw [en, k0] at h1
    cases h1
    have z1 := (KX _ _ k1).symm.trans h2
    cases z1
    have z2 := k2.symm.trans h3
    cases z2
    have z3 := k3.symm.trans h4
    cases z3
    obtain ⟨⟨oc, vc, e1, _, e3, e4⟩, hP⟩ := h6
    have z4 := (KX _ _ k4).symm.trans e1
    cases z4
    cases e3
    have z5 := k5.symm.trans e4
    cases z5
    exact hP
  obtain ⟨fd, cs, sp, hT, nT, C, hb, hsp, hF⟩ := F w mg fa _ Y KX G.T.g hmg own
  exact law_callG KX G.T.g G.T.b G.T.builtins G.T.nolimit hg hT nT C G.T.bmain hobj hints (Nat.le_trans hlen hn2) hr hF hb fun H hH hS hO => hsp H a ns hlen hH hS hO
end Bx
namespace Bx
open PySem PySem.Spec PyProof.Rows L2
abbrev KB : Nat := 4
abbrev KK : Nat := 7
def initOf : Stmt → Stmt
  | .ClassDef _ _ _ (s :: _) _ _ _ _ _ _ _ => s
  | s => s
section
variable {P : Program} {w : World} {K : PySem.W.Frag} {mg : Str → Option Value} {h : Heap} {fa : Addr}
theorem all_mk (X : K.In h) (G : h.Ns mainGlobals mg) (hfa : mg "law" = some (.ref fa)) (own : TabsOf K mg h []) {x__law_begun : Addr} {oc__law_begun kV__law_begun dc__law_begun pm__law_begun cd__law_begun ct__law_begun : Value} {od__law_begun an__law_begun : Option Addr} {sl__law_begun : Array (Option Value)} {x__law_mixed : Addr} {oc__law_mixed kV__law_mixed dc__law_mixed pm__law_mixed cd__law_mixed ct__law_mixed : Value} {od__law_mixed an__law_mixed : Option Addr} {sl__law_mixed : Array (Option Value)} {x__law_take : Addr} {oc__law_take kV__law_take dc__law_take pm__law_take cd__law_take ct__law_take : Value} {od__law_take an__law_take : Option Addr} {sl__law_take : Array (Option Value)} {x__law_pick : Addr} {oc__law_pick kV__law_pick dc__law_pick pm__law_pick cd__law_pick ct__law_pick : Value} {od__law_pick an__law_pick : Option Addr} {sl__law_pick : Array (Option Value)} {x__law_any : Addr} {oc__law_any kV__law_any dc__law_any pm__law_any cd__law_any ct__law_any : Value} {od__law_any an__law_any : Option Addr} {sl__law_any : Array (Option Value)} {x__law_kinds : Addr} {oc__law_kinds kV__law_kinds dc__law_kinds pm__law_kinds cd__law_kinds ct__law_kinds : Value} {od__law_kinds an__law_kinds : Option Addr} {sl__law_kinds : Array (Option Value)} {x__law_plain_errors : Addr} {oc__law_plain_errors kV__law_plain_errors dc__law_plain_errors pm__law_plain_errors cd__law_plain_errors ct__law_plain_errors : Value} {od__law_plain_errors an__law_plain_errors : Option Addr} {sl__law_plain_errors : Array (Option Value)} {x__law_errors_of : Addr} {oc__law_errors_of kV__law_errors_of dc__law_errors_of pm__law_errors_of cd__law_errors_of ct__law_errors_of : Value} {od__law_errors_of an__law_errors_of : Option Addr} {sl__law_errors_of : Array (Option Value)} {x_law : Addr} {oc_law kV_law dc_law pm_law cd_law ct_law : Value} {od_law an_law : Option Addr} {sl_law : Array (Option Value)} {x_BoxError : Addr} {x_BadPrime : Addr} {x_BadNumber : Addr} {nm_BadNumber q_BadNumber iq_BadNumber : Str} {N_BadNumber i_BadNumber ca_BadNumber cc_BadNumber : Addr} {bs_BadNumber bm_BadNumber sbl_BadNumber : List Value} {sn_BadNumber : List Str} {ab_BadNumber : Bool} {col_BadNumber : Option Bool} {dd_BadNumber : Option Addr} {e0_BadNumber e1_BadNumber e2_BadNumber e3_BadNumber e5_BadNumber : Option Value} {ioc_BadNumber idc_BadNumber ipm_BadNumber ict_BadNumber : Value} {iod_BadNumber ian_BadNumber : Option Addr} {isl_BadNumber : Array (Option Value)} {cl_BadNumber kl_BadNumber : Value} {cld_BadNumber kld_BadNumber : Option Addr} {vs_BadNumber : Array Value} {csl_BadNumber ksl_BadNumber : Array (Option Value)} {fi_BadNumber : Str} {ft_BadNumber : Tok} {x_BadShape : Addr} {x_BadBox : Addr} {x_BadFilling : Addr} {x_BadOrder : Addr} {x_BadSum : Addr} {x_BadWord : Addr} {x_TooMany : Addr} {nm_TooMany q_TooMany iq_TooMany : Str} {N_TooMany i_TooMany ca_TooMany cc_TooMany : Addr} {bs_TooMany bm_TooMany sbl_TooMany : List Value} {sn_TooMany : List Str} {ab_TooMany : Bool} {col_TooMany : Option Bool} {dd_TooMany : Option Addr} {e0_TooMany e1_TooMany e2_TooMany e3_TooMany e5_TooMany : Option Value} {ioc_TooMany idc_TooMany ipm_TooMany ict_TooMany : Value} {iod_TooMany ian_TooMany : Option Addr} {isl_TooMany : Array (Option Value)} {cl_TooMany kl_TooMany : Value} {cld_TooMany kld_TooMany : Option Addr} {vs_TooMany : Array Value} {csl_TooMany ksl_TooMany : Array (Option Value)} {fi_TooMany : Str} {ft_TooMany : Tok} {x_BadPowers : Addr} {x_BadCourse : Addr} {x_NotFree : Addr} {x_NotTold : Addr} {x_BadActing : Addr} {nm_BadActing q_BadActing iq_BadActing : Str} {N_BadActing i_BadActing ca_BadActing cc_BadActing : Addr} {bs_BadActing bm_BadActing sbl_BadActing : List Value} {sn_BadActing : List Str} {ab_BadActing : Bool} {col_BadActing : Option Bool} {dd_BadActing : Option Addr} {e0_BadActing e1_BadActing e2_BadActing e3_BadActing e5_BadActing : Option Value} {ioc_BadActing idc_BadActing ipm_BadActing ict_BadActing : Value} {iod_BadActing ian_BadActing : Option Addr} {isl_BadActing : Array (Option Value)} {cl_BadActing kl_BadActing : Value} {cld_BadActing kld_BadActing : Option Addr} {vs_BadActing : Array Value} {csl_BadActing ksl_BadActing : Array (Option Value)} {fi_BadActing : Str} {ft_BadActing : Tok} {x_BadRows : Addr} {x_BadWay : Addr} {x_BadLines : Addr} {x_BadSpread : Addr} {x_BadCell : Addr} {x_NotHere : Addr} {x_NotAlike : Addr} {x_BadDeed : Addr} {x_BadLive : Addr} {x_BadName : Addr} {x_BadText : Addr} {nm_BadText q_BadText iq_BadText : Str} {N_BadText i_BadText ca_BadText cc_BadText : Addr} {bs_BadText bm_BadText sbl_BadText : List Value} {sn_BadText : List Str} {ab_BadText : Bool} {col_BadText : Option Bool} {dd_BadText : Option Addr} {e0_BadText e1_BadText e2_BadText e3_BadText e5_BadText : Option Value} {ioc_BadText idc_BadText ipm_BadText ict_BadText : Value} {iod_BadText ian_BadText : Option Addr} {isl_BadText : Array (Option Value)} {cl_BadText kl_BadText : Value} {cld_BadText kld_BadText : Option Addr} {vs_BadText : Array Value} {csl_BadText ksl_BadText : Array (Option Value)} {fi_BadText : Str} {ft_BadText : Tok} {x_NoWatch : Addr} {nm_NoWatch q_NoWatch iq_NoWatch : Str} {N_NoWatch i_NoWatch ca_NoWatch cc_NoWatch : Addr} {bs_NoWatch bm_NoWatch sbl_NoWatch : List Value} {sn_NoWatch : List Str} {ab_NoWatch : Bool} {col_NoWatch : Option Bool} {dd_NoWatch : Option Addr} {e0_NoWatch e1_NoWatch e2_NoWatch e3_NoWatch e5_NoWatch : Option Value} {ioc_NoWatch idc_NoWatch ipm_NoWatch ict_NoWatch : Value} {iod_NoWatch ian_NoWatch : Option Addr} {isl_NoWatch : Array (Option Value)} {cl_NoWatch kl_NoWatch : Value} {cld_NoWatch kld_NoWatch : Option Addr} {vs_NoWatch : Array Value} {csl_NoWatch ksl_NoWatch : Array (Option Value)} {fi_NoWatch : Str} {ft_NoWatch : Tok} {x_NothingLeft : Addr}
    (n__law_begun : PySem.W.nsIn K mainGlobals "_law_begun" = some (some (.ref x__law_begun)))
    (l__law_begun : K.lookup x__law_begun = some ⟨oc__law_begun, od__law_begun, .func (PySem.W.fnOf "_law_begun" "_law_begun" (defArgs st__law_begun) (defBody st__law_begun) (defScope st__law_begun) .none kV__law_begun dc__law_begun pm__law_begun an__law_begun cd__law_begun ct__law_begun), sl__law_begun⟩)
    (c__law_begun : PySem.W.codeIn K cd__law_begun "_law_begun" = true)
    (k__law_begun : PySem.W.keepIn K (.ref x__law_begun) = true)
    (n__law_mixed : PySem.W.nsIn K mainGlobals "_law_mixed" = some (some (.ref x__law_mixed)))
    (l__law_mixed : K.lookup x__law_mixed = some ⟨oc__law_mixed, od__law_mixed, .func (PySem.W.fnOf "_law_mixed" "_law_mixed" (defArgs st__law_mixed) (defBody st__law_mixed) (defScope st__law_mixed) .none kV__law_mixed dc__law_mixed pm__law_mixed an__law_mixed cd__law_mixed ct__law_mixed), sl__law_mixed⟩)
    (c__law_mixed : PySem.W.codeIn K cd__law_mixed "_law_mixed" = true)
    (k__law_mixed : PySem.W.keepIn K (.ref x__law_mixed) = true)
    (n__law_take : PySem.W.nsIn K mainGlobals "_law_take" = some (some (.ref x__law_take)))
    (l__law_take : K.lookup x__law_take = some ⟨oc__law_take, od__law_take, .func (PySem.W.fnOf "_law_take" "_law_take" (defArgs (top 32)) (defBody (top 32)) (defScope (top 32)) .none kV__law_take dc__law_take pm__law_take an__law_take cd__law_take ct__law_take), sl__law_take⟩)
    (c__law_take : PySem.W.codeIn K cd__law_take "_law_take" = true)
    (k__law_take : PySem.W.keepIn K (.ref x__law_take) = true)
    (n__law_pick : PySem.W.nsIn K mainGlobals "_law_pick" = some (some (.ref x__law_pick)))
    (l__law_pick : K.lookup x__law_pick = some ⟨oc__law_pick, od__law_pick, .func (PySem.W.fnOf "_law_pick" "_law_pick" (defArgs st__law_pick) (defBody st__law_pick) (defScope st__law_pick) .none kV__law_pick dc__law_pick pm__law_pick an__law_pick cd__law_pick ct__law_pick), sl__law_pick⟩)
    (c__law_pick : PySem.W.codeIn K cd__law_pick "_law_pick" = true)
    (k__law_pick : PySem.W.keepIn K (.ref x__law_pick) = true)
    (n__law_any : PySem.W.nsIn K mainGlobals "_law_any" = some (some (.ref x__law_any)))
    (l__law_any : K.lookup x__law_any = some ⟨oc__law_any, od__law_any, .func (PySem.W.fnOf "_law_any" "_law_any" (defArgs st__law_any) (defBody st__law_any) (defScope st__law_any) .none kV__law_any dc__law_any pm__law_any an__law_any cd__law_any ct__law_any), sl__law_any⟩)
    (c__law_any : PySem.W.codeIn K cd__law_any "_law_any" = true)
    (k__law_any : PySem.W.keepIn K (.ref x__law_any) = true)
    (n__law_kinds : PySem.W.nsIn K mainGlobals "_law_kinds" = some (some (.ref x__law_kinds)))
    (l__law_kinds : K.lookup x__law_kinds = some ⟨oc__law_kinds, od__law_kinds, .func (PySem.W.fnOf "_law_kinds" "_law_kinds" (defArgs st__law_kinds) (defBody st__law_kinds) (defScope st__law_kinds) .none kV__law_kinds dc__law_kinds pm__law_kinds an__law_kinds cd__law_kinds ct__law_kinds), sl__law_kinds⟩)
    (c__law_kinds : PySem.W.codeIn K cd__law_kinds "_law_kinds" = true)
    (k__law_kinds : PySem.W.keepIn K (.ref x__law_kinds) = true)
    (n__law_plain_errors : PySem.W.nsIn K mainGlobals "_law_plain_errors" = some (some (.ref x__law_plain_errors)))
    (l__law_plain_errors : K.lookup x__law_plain_errors = some ⟨oc__law_plain_errors, od__law_plain_errors, .func (PySem.W.fnOf "_law_plain_errors" "_law_plain_errors" (defArgs st__law_plain_errors) (defBody st__law_plain_errors) (defScope st__law_plain_errors) .none kV__law_plain_errors dc__law_plain_errors pm__law_plain_errors an__law_plain_errors cd__law_plain_errors ct__law_plain_errors), sl__law_plain_errors⟩)
    (c__law_plain_errors : PySem.W.codeIn K cd__law_plain_errors "_law_plain_errors" = true)
    (k__law_plain_errors : PySem.W.keepIn K (.ref x__law_plain_errors) = true)
    (n__law_errors_of : PySem.W.nsIn K mainGlobals "_law_errors_of" = some (some (.ref x__law_errors_of)))
    (l__law_errors_of : K.lookup x__law_errors_of = some ⟨oc__law_errors_of, od__law_errors_of, .func (PySem.W.fnOf "_law_errors_of" "_law_errors_of" (defArgs st__law_errors_of) (defBody st__law_errors_of) (defScope st__law_errors_of) .none kV__law_errors_of dc__law_errors_of pm__law_errors_of an__law_errors_of cd__law_errors_of ct__law_errors_of), sl__law_errors_of⟩)
    (c__law_errors_of : PySem.W.codeIn K cd__law_errors_of "_law_errors_of" = true)
    (k__law_errors_of : PySem.W.keepIn K (.ref x__law_errors_of) = true)
    (n_law : PySem.W.nsIn K mainGlobals "law" = some (some (.ref x_law)))
    (l_law : K.lookup x_law = some ⟨oc_law, od_law, .func (PySem.W.fnOf "law" "law" (defArgs st_law) (defBody st_law) (defScope st_law) .none kV_law dc_law pm_law an_law cd_law ct_law), sl_law⟩)
    (c_law : PySem.W.codeIn K cd_law "law" = true)
    (k_law : PySem.W.keepIn K (.ref x_law) = true)
    (z_ValueError : PySem.W.nsIn K mainGlobals "ValueError" = some none)
    (z_abs : PySem.W.nsIn K mainGlobals "abs" = some none)
    (z_enumerate : PySem.W.nsIn K mainGlobals "enumerate" = some none)
    (z_int : PySem.W.nsIn K mainGlobals "int" = some none)
    (z_isinstance : PySem.W.nsIn K mainGlobals "isinstance" = some none)
    (z_len : PySem.W.nsIn K mainGlobals "len" = some none)
    (z_range : PySem.W.nsIn K mainGlobals "range" = some none)
    (z_repr : PySem.W.nsIn K mainGlobals "repr" = some none)
    (z_super : PySem.W.nsIn K mainGlobals "super" = some none)
    (eN : PySem.W.specialIn K (.builtin "object.__class__") "__get__" = some (some (.builtin "getset_descriptor.__get__")))
    (eT : PySem.W.takesIn K (.builtin "object.__class__") = some true)
    (eA : PySem.W.nsIn K cStatics "thirdparty.any" = some none)
    (n_BoxError : PySem.W.nsIn K mainGlobals "BoxError" = some (some (.ref x_BoxError)))
    (ec1_BoxError : PySem.W.isClsIn K x_BoxError = true)
    (ec2_BoxError : PySem.W.findIn K (.ref x_BoxError) "__getattribute__" = some (some (.builtin "BaseException.__getattribute__")))
    (ec3_BoxError : PySem.W.findIn K (.ref x_BoxError) "__getattr__" = some none)
    (ec4_BoxError : PySem.W.subIn K (.ref x_BoxError) (.type "BaseException") = some true)
    (ec5_BoxError : PySem.W.findIn K (.ref x_BoxError) "__class__" = some (some (.builtin "object.__class__")))
    (ec6_BoxError : PySem.W.mroIn K x_BoxError (.type "object") = some true)
    (ec7_BoxError : PySem.W.hasDictIn K x_BoxError = true)
    (ec8_BoxError : PySem.W.typeIn K (.ref x_BoxError) = some (.type "type"))
    (ec9_BoxError : PySem.W.keepIn K (.ref x_BoxError) = true)
    (b_BoxError : PySem.W.subIn K (.ref x_BoxError) (.ref x_BoxError) = some true)
    (x1_BoxError : PySem.W.excIn K x_BoxError veAll "ValueError.__new__" = true)
    (n_BadPrime : PySem.W.nsIn K mainGlobals "BadPrime" = some (some (.ref x_BadPrime)))
    (ec1_BadPrime : PySem.W.isClsIn K x_BadPrime = true)
    (ec2_BadPrime : PySem.W.findIn K (.ref x_BadPrime) "__getattribute__" = some (some (.builtin "BaseException.__getattribute__")))
    (ec3_BadPrime : PySem.W.findIn K (.ref x_BadPrime) "__getattr__" = some none)
    (ec4_BadPrime : PySem.W.subIn K (.ref x_BadPrime) (.type "BaseException") = some true)
    (ec5_BadPrime : PySem.W.findIn K (.ref x_BadPrime) "__class__" = some (some (.builtin "object.__class__")))
    (ec6_BadPrime : PySem.W.mroIn K x_BadPrime (.type "object") = some true)
    (ec7_BadPrime : PySem.W.hasDictIn K x_BadPrime = true)
    (ec8_BadPrime : PySem.W.typeIn K (.ref x_BadPrime) = some (.type "type"))
    (ec9_BadPrime : PySem.W.keepIn K (.ref x_BadPrime) = true)
    (b_BadPrime : PySem.W.subIn K (.ref x_BadPrime) (.ref x_BoxError) = some true)
    (x1_BadPrime : PySem.W.excIn K x_BadPrime veAll "ValueError.__new__" = true)
    (n_BadNumber : PySem.W.nsIn K mainGlobals "BadNumber" = some (some (.ref x_BadNumber)))
    (ec1_BadNumber : PySem.W.isClsIn K x_BadNumber = true)
    (ec2_BadNumber : PySem.W.findIn K (.ref x_BadNumber) "__getattribute__" = some (some (.builtin "BaseException.__getattribute__")))
    (ec3_BadNumber : PySem.W.findIn K (.ref x_BadNumber) "__getattr__" = some none)
    (ec4_BadNumber : PySem.W.subIn K (.ref x_BadNumber) (.type "BaseException") = some true)
    (ec5_BadNumber : PySem.W.findIn K (.ref x_BadNumber) "__class__" = some (some (.builtin "object.__class__")))
    (ec6_BadNumber : PySem.W.mroIn K x_BadNumber (.type "object") = some true)
    (ec7_BadNumber : PySem.W.hasDictIn K x_BadNumber = true)
    (ec8_BadNumber : PySem.W.typeIn K (.ref x_BadNumber) = some (.type "type"))
    (ec9_BadNumber : PySem.W.keepIn K (.ref x_BadNumber) = true)
    (b_BadNumber : PySem.W.subIn K (.ref x_BadNumber) (.ref x_BoxError) = some true)
    (L_BadNumber : K.lookup x_BadNumber = some (excClassObj nm_BadNumber q_BadNumber x_BadNumber N_BadNumber bs_BadNumber bm_BadNumber true sn_BadNumber sbl_BadNumber ab_BadNumber col_BadNumber dd_BadNumber e0_BadNumber e1_BadNumber e2_BadNumber e3_BadNumber e5_BadNumber "ValueError.__new__"))
    (rb_BadNumber : PySem.HandSPX.refsVE bm_BadNumber = true)
    (sa_BadNumber : PySem.W.findIn K (.ref x_BadNumber) "__setattr__" = some (some (.builtin "object.__setattr__")))
    (nf_BadNumber : PySem.W.findIn K (.ref x_BadNumber) "part" = some none)
    (ii_BadNumber : PySem.W.findIn K (.ref x_BadNumber) "__init__" = some (some (.ref i_BadNumber)))
    (it_BadNumber : PySem.W.typeIn K (.ref i_BadNumber) = some (.type "function"))
    (il_BadNumber : K.lookup i_BadNumber = some ⟨ioc_BadNumber, iod_BadNumber, .func (PySem.W.ksFn "__init__" iq_BadNumber (defArgs (initOf (top 3))) (defBody (initOf (top 3))) (defScope (initOf (top 3))) .none .none idc_BadNumber ipm_BadNumber ian_BadNumber (.ref ca_BadNumber) ict_BadNumber cc_BadNumber), isl_BadNumber⟩)
    (ic_BadNumber : PySem.W.codeIn K (.ref ca_BadNumber) iq_BadNumber = true)
    (cl1_BadNumber : K.lookup ca_BadNumber = some ⟨cl_BadNumber, cld_BadNumber, .fields vs_BadNumber, csl_BadNumber⟩)
    (cf_BadNumber : vs_BadNumber[2]? = some (.str fi_BadNumber ft_BadNumber))
    (ce_BadNumber : ((P.main.file : Str) == fi_BadNumber) = true)
    (kc_BadNumber : K.lookup cc_BadNumber = some ⟨kl_BadNumber, kld_BadNumber, .cell (some (.ref x_BadNumber)), ksl_BadNumber⟩)
    (m1_BadNumber : PySem.W.mroIn K x_BadNumber (.ref x_BadNumber) = some true)
    (su_BadNumber : PySem.W.ks_superIn K x_BadNumber x_BadNumber "__init__" = some (some (.builtin "ValueError.__init__")))
    (ve_BadNumber : PySem.W.subIn K (.ref x_BadNumber) (.type "ValueError") = some true)
    (n_BadShape : PySem.W.nsIn K mainGlobals "BadShape" = some (some (.ref x_BadShape)))
    (ec1_BadShape : PySem.W.isClsIn K x_BadShape = true)
    (ec2_BadShape : PySem.W.findIn K (.ref x_BadShape) "__getattribute__" = some (some (.builtin "BaseException.__getattribute__")))
    (ec3_BadShape : PySem.W.findIn K (.ref x_BadShape) "__getattr__" = some none)
    (ec4_BadShape : PySem.W.subIn K (.ref x_BadShape) (.type "BaseException") = some true)
    (ec5_BadShape : PySem.W.findIn K (.ref x_BadShape) "__class__" = some (some (.builtin "object.__class__")))
    (ec6_BadShape : PySem.W.mroIn K x_BadShape (.type "object") = some true)
    (ec7_BadShape : PySem.W.hasDictIn K x_BadShape = true)
    (ec8_BadShape : PySem.W.typeIn K (.ref x_BadShape) = some (.type "type"))
    (ec9_BadShape : PySem.W.keepIn K (.ref x_BadShape) = true)
    (b_BadShape : PySem.W.subIn K (.ref x_BadShape) (.ref x_BoxError) = some true)
    (x1_BadShape : PySem.W.excIn K x_BadShape veAll "ValueError.__new__" = true)
    (n_BadBox : PySem.W.nsIn K mainGlobals "BadBox" = some (some (.ref x_BadBox)))
    (ec1_BadBox : PySem.W.isClsIn K x_BadBox = true)
    (ec2_BadBox : PySem.W.findIn K (.ref x_BadBox) "__getattribute__" = some (some (.builtin "BaseException.__getattribute__")))
    (ec3_BadBox : PySem.W.findIn K (.ref x_BadBox) "__getattr__" = some none)
    (ec4_BadBox : PySem.W.subIn K (.ref x_BadBox) (.type "BaseException") = some true)
    (ec5_BadBox : PySem.W.findIn K (.ref x_BadBox) "__class__" = some (some (.builtin "object.__class__")))
    (ec6_BadBox : PySem.W.mroIn K x_BadBox (.type "object") = some true)
    (ec7_BadBox : PySem.W.hasDictIn K x_BadBox = true)
    (ec8_BadBox : PySem.W.typeIn K (.ref x_BadBox) = some (.type "type"))
    (ec9_BadBox : PySem.W.keepIn K (.ref x_BadBox) = true)
    (b_BadBox : PySem.W.subIn K (.ref x_BadBox) (.ref x_BoxError) = some true)
    (x1_BadBox : PySem.W.excIn K x_BadBox veAll "ValueError.__new__" = true)
    (n_BadFilling : PySem.W.nsIn K mainGlobals "BadFilling" = some (some (.ref x_BadFilling)))
    (ec1_BadFilling : PySem.W.isClsIn K x_BadFilling = true)
    (ec2_BadFilling : PySem.W.findIn K (.ref x_BadFilling) "__getattribute__" = some (some (.builtin "BaseException.__getattribute__")))
    (ec3_BadFilling : PySem.W.findIn K (.ref x_BadFilling) "__getattr__" = some none)
    (ec4_BadFilling : PySem.W.subIn K (.ref x_BadFilling) (.type "BaseException") = some true)
    (ec5_BadFilling : PySem.W.findIn K (.ref x_BadFilling) "__class__" = some (some (.builtin "object.__class__")))
    (ec6_BadFilling : PySem.W.mroIn K x_BadFilling (.type "object") = some true)
    (ec7_BadFilling : PySem.W.hasDictIn K x_BadFilling = true)
    (ec8_BadFilling : PySem.W.typeIn K (.ref x_BadFilling) = some (.type "type"))
    (ec9_BadFilling : PySem.W.keepIn K (.ref x_BadFilling) = true)
    (b_BadFilling : PySem.W.subIn K (.ref x_BadFilling) (.ref x_BoxError) = some true)
    (x1_BadFilling : PySem.W.excIn K x_BadFilling veAll "ValueError.__new__" = true)
    (n_BadOrder : PySem.W.nsIn K mainGlobals "BadOrder" = some (some (.ref x_BadOrder)))
    (ec1_BadOrder : PySem.W.isClsIn K x_BadOrder = true)
    (ec2_BadOrder : PySem.W.findIn K (.ref x_BadOrder) "__getattribute__" = some (some (.builtin "BaseException.__getattribute__")))
    (ec3_BadOrder : PySem.W.findIn K (.ref x_BadOrder) "__getattr__" = some none)
    (ec4_BadOrder : PySem.W.subIn K (.ref x_BadOrder) (.type "BaseException") = some true)
    (ec5_BadOrder : PySem.W.findIn K (.ref x_BadOrder) "__class__" = some (some (.builtin "object.__class__")))
    (ec6_BadOrder : PySem.W.mroIn K x_BadOrder (.type "object") = some true)
    (ec7_BadOrder : PySem.W.hasDictIn K x_BadOrder = true)
    (ec8_BadOrder : PySem.W.typeIn K (.ref x_BadOrder) = some (.type "type"))
    (ec9_BadOrder : PySem.W.keepIn K (.ref x_BadOrder) = true)
    (b_BadOrder : PySem.W.subIn K (.ref x_BadOrder) (.ref x_BoxError) = some true)
    (x1_BadOrder : PySem.W.excIn K x_BadOrder veAll "ValueError.__new__" = true)
    (n_BadSum : PySem.W.nsIn K mainGlobals "BadSum" = some (some (.ref x_BadSum)))
    (ec1_BadSum : PySem.W.isClsIn K x_BadSum = true)
    (ec2_BadSum : PySem.W.findIn K (.ref x_BadSum) "__getattribute__" = some (some (.builtin "BaseException.__getattribute__")))
    (ec3_BadSum : PySem.W.findIn K (.ref x_BadSum) "__getattr__" = some none)
    (ec4_BadSum : PySem.W.subIn K (.ref x_BadSum) (.type "BaseException") = some true)
    (ec5_BadSum : PySem.W.findIn K (.ref x_BadSum) "__class__" = some (some (.builtin "object.__class__")))
    (ec6_BadSum : PySem.W.mroIn K x_BadSum (.type "object") = some true)
    (ec7_BadSum : PySem.W.hasDictIn K x_BadSum = true)
    (ec8_BadSum : PySem.W.typeIn K (.ref x_BadSum) = some (.type "type"))
    (ec9_BadSum : PySem.W.keepIn K (.ref x_BadSum) = true)
    (b_BadSum : PySem.W.subIn K (.ref x_BadSum) (.ref x_BoxError) = some true)
    (x1_BadSum : PySem.W.excIn K x_BadSum veAll "ValueError.__new__" = true)
    (n_BadWord : PySem.W.nsIn K mainGlobals "BadWord" = some (some (.ref x_BadWord)))
    (ec1_BadWord : PySem.W.isClsIn K x_BadWord = true)
    (ec2_BadWord : PySem.W.findIn K (.ref x_BadWord) "__getattribute__" = some (some (.builtin "BaseException.__getattribute__")))
    (ec3_BadWord : PySem.W.findIn K (.ref x_BadWord) "__getattr__" = some none)
    (ec4_BadWord : PySem.W.subIn K (.ref x_BadWord) (.type "BaseException") = some true)
    (ec5_BadWord : PySem.W.findIn K (.ref x_BadWord) "__class__" = some (some (.builtin "object.__class__")))
    (ec6_BadWord : PySem.W.mroIn K x_BadWord (.type "object") = some true)
    (ec7_BadWord : PySem.W.hasDictIn K x_BadWord = true)
    (ec8_BadWord : PySem.W.typeIn K (.ref x_BadWord) = some (.type "type"))
    (ec9_BadWord : PySem.W.keepIn K (.ref x_BadWord) = true)
    (b_BadWord : PySem.W.subIn K (.ref x_BadWord) (.ref x_BoxError) = some true)
    (x1_BadWord : PySem.W.excIn K x_BadWord veAll "ValueError.__new__" = true)
    (n_TooMany : PySem.W.nsIn K mainGlobals "TooMany" = some (some (.ref x_TooMany)))
    (ec1_TooMany : PySem.W.isClsIn K x_TooMany = true)
    (ec2_TooMany : PySem.W.findIn K (.ref x_TooMany) "__getattribute__" = some (some (.builtin "BaseException.__getattribute__")))
    (ec3_TooMany : PySem.W.findIn K (.ref x_TooMany) "__getattr__" = some none)
    (ec4_TooMany : PySem.W.subIn K (.ref x_TooMany) (.type "BaseException") = some true)
    (ec5_TooMany : PySem.W.findIn K (.ref x_TooMany) "__class__" = some (some (.builtin "object.__class__")))
    (ec6_TooMany : PySem.W.mroIn K x_TooMany (.type "object") = some true)
    (ec7_TooMany : PySem.W.hasDictIn K x_TooMany = true)
    (ec8_TooMany : PySem.W.typeIn K (.ref x_TooMany) = some (.type "type"))
    (ec9_TooMany : PySem.W.keepIn K (.ref x_TooMany) = true)
    (b_TooMany : PySem.W.subIn K (.ref x_TooMany) (.ref x_BoxError) = some true)
    (L_TooMany : K.lookup x_TooMany = some (excClassObj nm_TooMany q_TooMany x_TooMany N_TooMany bs_TooMany bm_TooMany true sn_TooMany sbl_TooMany ab_TooMany col_TooMany dd_TooMany e0_TooMany e1_TooMany e2_TooMany e3_TooMany e5_TooMany "ValueError.__new__"))
    (rb_TooMany : PySem.HandSPX.refsVE bm_TooMany = true)
    (sa_TooMany : PySem.W.findIn K (.ref x_TooMany) "__setattr__" = some (some (.builtin "object.__setattr__")))
    (nf_TooMany : PySem.W.findIn K (.ref x_TooMany) "most" = some none)
    (ii_TooMany : PySem.W.findIn K (.ref x_TooMany) "__init__" = some (some (.ref i_TooMany)))
    (it_TooMany : PySem.W.typeIn K (.ref i_TooMany) = some (.type "function"))
    (il_TooMany : K.lookup i_TooMany = some ⟨ioc_TooMany, iod_TooMany, .func (PySem.W.ksFn "__init__" iq_TooMany (defArgs (initOf (top 10))) (defBody (initOf (top 10))) (defScope (initOf (top 10))) .none .none idc_TooMany ipm_TooMany ian_TooMany (.ref ca_TooMany) ict_TooMany cc_TooMany), isl_TooMany⟩)
    (ic_TooMany : PySem.W.codeIn K (.ref ca_TooMany) iq_TooMany = true)
    (cl1_TooMany : K.lookup ca_TooMany = some ⟨cl_TooMany, cld_TooMany, .fields vs_TooMany, csl_TooMany⟩)
    (cf_TooMany : vs_TooMany[2]? = some (.str fi_TooMany ft_TooMany))
    (ce_TooMany : ((P.main.file : Str) == fi_TooMany) = true)
    (kc_TooMany : K.lookup cc_TooMany = some ⟨kl_TooMany, kld_TooMany, .cell (some (.ref x_TooMany)), ksl_TooMany⟩)
    (m1_TooMany : PySem.W.mroIn K x_TooMany (.ref x_TooMany) = some true)
    (su_TooMany : PySem.W.ks_superIn K x_TooMany x_TooMany "__init__" = some (some (.builtin "ValueError.__init__")))
    (ve_TooMany : PySem.W.subIn K (.ref x_TooMany) (.type "ValueError") = some true)
    (n_BadPowers : PySem.W.nsIn K mainGlobals "BadPowers" = some (some (.ref x_BadPowers)))
    (ec1_BadPowers : PySem.W.isClsIn K x_BadPowers = true)
    (ec2_BadPowers : PySem.W.findIn K (.ref x_BadPowers) "__getattribute__" = some (some (.builtin "BaseException.__getattribute__")))
    (ec3_BadPowers : PySem.W.findIn K (.ref x_BadPowers) "__getattr__" = some none)
    (ec4_BadPowers : PySem.W.subIn K (.ref x_BadPowers) (.type "BaseException") = some true)
    (ec5_BadPowers : PySem.W.findIn K (.ref x_BadPowers) "__class__" = some (some (.builtin "object.__class__")))
    (ec6_BadPowers : PySem.W.mroIn K x_BadPowers (.type "object") = some true)
    (ec7_BadPowers : PySem.W.hasDictIn K x_BadPowers = true)
    (ec8_BadPowers : PySem.W.typeIn K (.ref x_BadPowers) = some (.type "type"))
    (ec9_BadPowers : PySem.W.keepIn K (.ref x_BadPowers) = true)
    (b_BadPowers : PySem.W.subIn K (.ref x_BadPowers) (.ref x_BoxError) = some true)
    (x1_BadPowers : PySem.W.excIn K x_BadPowers veAll "ValueError.__new__" = true)
    (n_BadCourse : PySem.W.nsIn K mainGlobals "BadCourse" = some (some (.ref x_BadCourse)))
    (ec1_BadCourse : PySem.W.isClsIn K x_BadCourse = true)
    (ec2_BadCourse : PySem.W.findIn K (.ref x_BadCourse) "__getattribute__" = some (some (.builtin "BaseException.__getattribute__")))
    (ec3_BadCourse : PySem.W.findIn K (.ref x_BadCourse) "__getattr__" = some none)
    (ec4_BadCourse : PySem.W.subIn K (.ref x_BadCourse) (.type "BaseException") = some true)
    (ec5_BadCourse : PySem.W.findIn K (.ref x_BadCourse) "__class__" = some (some (.builtin "object.__class__")))
    (ec6_BadCourse : PySem.W.mroIn K x_BadCourse (.type "object") = some true)
    (ec7_BadCourse : PySem.W.hasDictIn K x_BadCourse = true)
    (ec8_BadCourse : PySem.W.typeIn K (.ref x_BadCourse) = some (.type "type"))
    (ec9_BadCourse : PySem.W.keepIn K (.ref x_BadCourse) = true)
    (b_BadCourse : PySem.W.subIn K (.ref x_BadCourse) (.ref x_BoxError) = some true)
    (x1_BadCourse : PySem.W.excIn K x_BadCourse veAll "ValueError.__new__" = true)
    (n_NotFree : PySem.W.nsIn K mainGlobals "NotFree" = some (some (.ref x_NotFree)))
    (ec1_NotFree : PySem.W.isClsIn K x_NotFree = true)
    (ec2_NotFree : PySem.W.findIn K (.ref x_NotFree) "__getattribute__" = some (some (.builtin "BaseException.__getattribute__")))
    (ec3_NotFree : PySem.W.findIn K (.ref x_NotFree) "__getattr__" = some none)
    (ec4_NotFree : PySem.W.subIn K (.ref x_NotFree) (.type "BaseException") = some true)
    (ec5_NotFree : PySem.W.findIn K (.ref x_NotFree) "__class__" = some (some (.builtin "object.__class__")))
    (ec6_NotFree : PySem.W.mroIn K x_NotFree (.type "object") = some true)
    (ec7_NotFree : PySem.W.hasDictIn K x_NotFree = true)
    (ec8_NotFree : PySem.W.typeIn K (.ref x_NotFree) = some (.type "type"))
    (ec9_NotFree : PySem.W.keepIn K (.ref x_NotFree) = true)
    (b_NotFree : PySem.W.subIn K (.ref x_NotFree) (.ref x_BoxError) = some true)
    (x1_NotFree : PySem.W.excIn K x_NotFree veAll "ValueError.__new__" = true)
    (n_NotTold : PySem.W.nsIn K mainGlobals "NotTold" = some (some (.ref x_NotTold)))
    (ec1_NotTold : PySem.W.isClsIn K x_NotTold = true)
    (ec2_NotTold : PySem.W.findIn K (.ref x_NotTold) "__getattribute__" = some (some (.builtin "BaseException.__getattribute__")))
    (ec3_NotTold : PySem.W.findIn K (.ref x_NotTold) "__getattr__" = some none)
    (ec4_NotTold : PySem.W.subIn K (.ref x_NotTold) (.type "BaseException") = some true)
    (ec5_NotTold : PySem.W.findIn K (.ref x_NotTold) "__class__" = some (some (.builtin "object.__class__")))
    (ec6_NotTold : PySem.W.mroIn K x_NotTold (.type "object") = some true)
    (ec7_NotTold : PySem.W.hasDictIn K x_NotTold = true)
    (ec8_NotTold : PySem.W.typeIn K (.ref x_NotTold) = some (.type "type"))
    (ec9_NotTold : PySem.W.keepIn K (.ref x_NotTold) = true)
    (b_NotTold : PySem.W.subIn K (.ref x_NotTold) (.ref x_BoxError) = some true)
    (x1_NotTold : PySem.W.excIn K x_NotTold veAll "ValueError.__new__" = true)
    (n_BadActing : PySem.W.nsIn K mainGlobals "BadActing" = some (some (.ref x_BadActing)))
    (ec1_BadActing : PySem.W.isClsIn K x_BadActing = true)
    (ec2_BadActing : PySem.W.findIn K (.ref x_BadActing) "__getattribute__" = some (some (.builtin "BaseException.__getattribute__")))
    (ec3_BadActing : PySem.W.findIn K (.ref x_BadActing) "__getattr__" = some none)
    (ec4_BadActing : PySem.W.subIn K (.ref x_BadActing) (.type "BaseException") = some true)
    (ec5_BadActing : PySem.W.findIn K (.ref x_BadActing) "__class__" = some (some (.builtin "object.__class__")))
    (ec6_BadActing : PySem.W.mroIn K x_BadActing (.type "object") = some true)
    (ec7_BadActing : PySem.W.hasDictIn K x_BadActing = true)
    (ec8_BadActing : PySem.W.typeIn K (.ref x_BadActing) = some (.type "type"))
    (ec9_BadActing : PySem.W.keepIn K (.ref x_BadActing) = true)
    (b_BadActing : PySem.W.subIn K (.ref x_BadActing) (.ref x_BoxError) = some true)
    (L_BadActing : K.lookup x_BadActing = some (excClassObj nm_BadActing q_BadActing x_BadActing N_BadActing bs_BadActing bm_BadActing true sn_BadActing sbl_BadActing ab_BadActing col_BadActing dd_BadActing e0_BadActing e1_BadActing e2_BadActing e3_BadActing e5_BadActing "ValueError.__new__"))
    (rb_BadActing : PySem.HandSPX.refsVE bm_BadActing = true)
    (sa_BadActing : PySem.W.findIn K (.ref x_BadActing) "__setattr__" = some (some (.builtin "object.__setattr__")))
    (nf_BadActing : PySem.W.findIn K (.ref x_BadActing) "part" = some none)
    (ii_BadActing : PySem.W.findIn K (.ref x_BadActing) "__init__" = some (some (.ref i_BadActing)))
    (it_BadActing : PySem.W.typeIn K (.ref i_BadActing) = some (.type "function"))
    (il_BadActing : K.lookup i_BadActing = some ⟨ioc_BadActing, iod_BadActing, .func (PySem.W.ksFn "__init__" iq_BadActing (defArgs (initOf (top 15))) (defBody (initOf (top 15))) (defScope (initOf (top 15))) .none .none idc_BadActing ipm_BadActing ian_BadActing (.ref ca_BadActing) ict_BadActing cc_BadActing), isl_BadActing⟩)
    (ic_BadActing : PySem.W.codeIn K (.ref ca_BadActing) iq_BadActing = true)
    (cl1_BadActing : K.lookup ca_BadActing = some ⟨cl_BadActing, cld_BadActing, .fields vs_BadActing, csl_BadActing⟩)
    (cf_BadActing : vs_BadActing[2]? = some (.str fi_BadActing ft_BadActing))
    (ce_BadActing : ((P.main.file : Str) == fi_BadActing) = true)
    (kc_BadActing : K.lookup cc_BadActing = some ⟨kl_BadActing, kld_BadActing, .cell (some (.ref x_BadActing)), ksl_BadActing⟩)
    (m1_BadActing : PySem.W.mroIn K x_BadActing (.ref x_BadActing) = some true)
    (su_BadActing : PySem.W.ks_superIn K x_BadActing x_BadActing "__init__" = some (some (.builtin "ValueError.__init__")))
    (ve_BadActing : PySem.W.subIn K (.ref x_BadActing) (.type "ValueError") = some true)
    (n_BadRows : PySem.W.nsIn K mainGlobals "BadRows" = some (some (.ref x_BadRows)))
    (ec1_BadRows : PySem.W.isClsIn K x_BadRows = true)
    (ec2_BadRows : PySem.W.findIn K (.ref x_BadRows) "__getattribute__" = some (some (.builtin "BaseException.__getattribute__")))
    (ec3_BadRows : PySem.W.findIn K (.ref x_BadRows) "__getattr__" = some none)
    (ec4_BadRows : PySem.W.subIn K (.ref x_BadRows) (.type "BaseException") = some true)
    (ec5_BadRows : PySem.W.findIn K (.ref x_BadRows) "__class__" = some (some (.builtin "object.__class__")))
    (ec6_BadRows : PySem.W.mroIn K x_BadRows (.type "object") = some true)
    (ec7_BadRows : PySem.W.hasDictIn K x_BadRows = true)
    (ec8_BadRows : PySem.W.typeIn K (.ref x_BadRows) = some (.type "type"))
    (ec9_BadRows : PySem.W.keepIn K (.ref x_BadRows) = true)
    (b_BadRows : PySem.W.subIn K (.ref x_BadRows) (.ref x_BoxError) = some true)
    (x1_BadRows : PySem.W.excIn K x_BadRows veAll "ValueError.__new__" = true)
    (n_BadWay : PySem.W.nsIn K mainGlobals "BadWay" = some (some (.ref x_BadWay)))
    (ec1_BadWay : PySem.W.isClsIn K x_BadWay = true)
    (ec2_BadWay : PySem.W.findIn K (.ref x_BadWay) "__getattribute__" = some (some (.builtin "BaseException.__getattribute__")))
    (ec3_BadWay : PySem.W.findIn K (.ref x_BadWay) "__getattr__" = some none)
    (ec4_BadWay : PySem.W.subIn K (.ref x_BadWay) (.type "BaseException") = some true)
    (ec5_BadWay : PySem.W.findIn K (.ref x_BadWay) "__class__" = some (some (.builtin "object.__class__")))
    (ec6_BadWay : PySem.W.mroIn K x_BadWay (.type "object") = some true)
    (ec7_BadWay : PySem.W.hasDictIn K x_BadWay = true)
    (ec8_BadWay : PySem.W.typeIn K (.ref x_BadWay) = some (.type "type"))
    (ec9_BadWay : PySem.W.keepIn K (.ref x_BadWay) = true)
    (b_BadWay : PySem.W.subIn K (.ref x_BadWay) (.ref x_BoxError) = some true)
    (x1_BadWay : PySem.W.excIn K x_BadWay veAll "ValueError.__new__" = true)
    (n_BadLines : PySem.W.nsIn K mainGlobals "BadLines" = some (some (.ref x_BadLines)))
    (ec1_BadLines : PySem.W.isClsIn K x_BadLines = true)
    (ec2_BadLines : PySem.W.findIn K (.ref x_BadLines) "__getattribute__" = some (some (.builtin "BaseException.__getattribute__")))
    (ec3_BadLines : PySem.W.findIn K (.ref x_BadLines) "__getattr__" = some none)
    (ec4_BadLines : PySem.W.subIn K (.ref x_BadLines) (.type "BaseException") = some true)
    (ec5_BadLines : PySem.W.findIn K (.ref x_BadLines) "__class__" = some (some (.builtin "object.__class__")))
    (ec6_BadLines : PySem.W.mroIn K x_BadLines (.type "object") = some true)
    (ec7_BadLines : PySem.W.hasDictIn K x_BadLines = true)
    (ec8_BadLines : PySem.W.typeIn K (.ref x_BadLines) = some (.type "type"))
    (ec9_BadLines : PySem.W.keepIn K (.ref x_BadLines) = true)
    (b_BadLines : PySem.W.subIn K (.ref x_BadLines) (.ref x_BoxError) = some true)
    (x1_BadLines : PySem.W.excIn K x_BadLines veAll "ValueError.__new__" = true)
    (n_BadSpread : PySem.W.nsIn K mainGlobals "BadSpread" = some (some (.ref x_BadSpread)))
    (ec1_BadSpread : PySem.W.isClsIn K x_BadSpread = true)
    (ec2_BadSpread : PySem.W.findIn K (.ref x_BadSpread) "__getattribute__" = some (some (.builtin "BaseException.__getattribute__")))
    (ec3_BadSpread : PySem.W.findIn K (.ref x_BadSpread) "__getattr__" = some none)
    (ec4_BadSpread : PySem.W.subIn K (.ref x_BadSpread) (.type "BaseException") = some true)
    (ec5_BadSpread : PySem.W.findIn K (.ref x_BadSpread) "__class__" = some (some (.builtin "object.__class__")))
    (ec6_BadSpread : PySem.W.mroIn K x_BadSpread (.type "object") = some true)
    (ec7_BadSpread : PySem.W.hasDictIn K x_BadSpread = true)
    (ec8_BadSpread : PySem.W.typeIn K (.ref x_BadSpread) = some (.type "type"))
    (ec9_BadSpread : PySem.W.keepIn K (.ref x_BadSpread) = true)
    (b_BadSpread : PySem.W.subIn K (.ref x_BadSpread) (.ref x_BoxError) = some true)
    (x1_BadSpread : PySem.W.excIn K x_BadSpread veAll "ValueError.__new__" = true)
    (n_BadCell : PySem.W.nsIn K mainGlobals "BadCell" = some (some (.ref x_BadCell)))
    (ec1_BadCell : PySem.W.isClsIn K x_BadCell = true)
    (ec2_BadCell : PySem.W.findIn K (.ref x_BadCell) "__getattribute__" = some (some (.builtin "BaseException.__getattribute__")))
    (ec3_BadCell : PySem.W.findIn K (.ref x_BadCell) "__getattr__" = some none)
    (ec4_BadCell : PySem.W.subIn K (.ref x_BadCell) (.type "BaseException") = some true)
    (ec5_BadCell : PySem.W.findIn K (.ref x_BadCell) "__class__" = some (some (.builtin "object.__class__")))
    (ec6_BadCell : PySem.W.mroIn K x_BadCell (.type "object") = some true)
    (ec7_BadCell : PySem.W.hasDictIn K x_BadCell = true)
    (ec8_BadCell : PySem.W.typeIn K (.ref x_BadCell) = some (.type "type"))
    (ec9_BadCell : PySem.W.keepIn K (.ref x_BadCell) = true)
    (b_BadCell : PySem.W.subIn K (.ref x_BadCell) (.ref x_BoxError) = some true)
    (x1_BadCell : PySem.W.excIn K x_BadCell veAll "ValueError.__new__" = true)
    (n_NotHere : PySem.W.nsIn K mainGlobals "NotHere" = some (some (.ref x_NotHere)))
    (ec1_NotHere : PySem.W.isClsIn K x_NotHere = true)
    (ec2_NotHere : PySem.W.findIn K (.ref x_NotHere) "__getattribute__" = some (some (.builtin "BaseException.__getattribute__")))
    (ec3_NotHere : PySem.W.findIn K (.ref x_NotHere) "__getattr__" = some none)
    (ec4_NotHere : PySem.W.subIn K (.ref x_NotHere) (.type "BaseException") = some true)
    (ec5_NotHere : PySem.W.findIn K (.ref x_NotHere) "__class__" = some (some (.builtin "object.__class__")))
    (ec6_NotHere : PySem.W.mroIn K x_NotHere (.type "object") = some true)
    (ec7_NotHere : PySem.W.hasDictIn K x_NotHere = true)
    (ec8_NotHere : PySem.W.typeIn K (.ref x_NotHere) = some (.type "type"))
    (ec9_NotHere : PySem.W.keepIn K (.ref x_NotHere) = true)
    (b_NotHere : PySem.W.subIn K (.ref x_NotHere) (.ref x_BoxError) = some true)
    (x1_NotHere : PySem.W.excIn K x_NotHere veAll "ValueError.__new__" = true)
    (n_NotAlike : PySem.W.nsIn K mainGlobals "NotAlike" = some (some (.ref x_NotAlike)))
    (ec1_NotAlike : PySem.W.isClsIn K x_NotAlike = true)
    (ec2_NotAlike : PySem.W.findIn K (.ref x_NotAlike) "__getattribute__" = some (some (.builtin "BaseException.__getattribute__")))
    (ec3_NotAlike : PySem.W.findIn K (.ref x_NotAlike) "__getattr__" = some none)
    (ec4_NotAlike : PySem.W.subIn K (.ref x_NotAlike) (.type "BaseException") = some true)
    (ec5_NotAlike : PySem.W.findIn K (.ref x_NotAlike) "__class__" = some (some (.builtin "object.__class__")))
    (ec6_NotAlike : PySem.W.mroIn K x_NotAlike (.type "object") = some true)
    (ec7_NotAlike : PySem.W.hasDictIn K x_NotAlike = true)
    (ec8_NotAlike : PySem.W.typeIn K (.ref x_NotAlike) = some (.type "type"))
    (ec9_NotAlike : PySem.W.keepIn K (.ref x_NotAlike) = true)
    (b_NotAlike : PySem.W.subIn K (.ref x_NotAlike) (.ref x_BoxError) = some true)
    (x1_NotAlike : PySem.W.excIn K x_NotAlike veAll "ValueError.__new__" = true)
    (n_BadDeed : PySem.W.nsIn K mainGlobals "BadDeed" = some (some (.ref x_BadDeed)))
    (ec1_BadDeed : PySem.W.isClsIn K x_BadDeed = true)
    (ec2_BadDeed : PySem.W.findIn K (.ref x_BadDeed) "__getattribute__" = some (some (.builtin "BaseException.__getattribute__")))
    (ec3_BadDeed : PySem.W.findIn K (.ref x_BadDeed) "__getattr__" = some none)
    (ec4_BadDeed : PySem.W.subIn K (.ref x_BadDeed) (.type "BaseException") = some true)
    (ec5_BadDeed : PySem.W.findIn K (.ref x_BadDeed) "__class__" = some (some (.builtin "object.__class__")))
    (ec6_BadDeed : PySem.W.mroIn K x_BadDeed (.type "object") = some true)
    (ec7_BadDeed : PySem.W.hasDictIn K x_BadDeed = true)
    (ec8_BadDeed : PySem.W.typeIn K (.ref x_BadDeed) = some (.type "type"))
    (ec9_BadDeed : PySem.W.keepIn K (.ref x_BadDeed) = true)
    (b_BadDeed : PySem.W.subIn K (.ref x_BadDeed) (.ref x_BoxError) = some true)
    (x1_BadDeed : PySem.W.excIn K x_BadDeed veAll "ValueError.__new__" = true)
    (n_BadLive : PySem.W.nsIn K mainGlobals "BadLive" = some (some (.ref x_BadLive)))
    (ec1_BadLive : PySem.W.isClsIn K x_BadLive = true)
    (ec2_BadLive : PySem.W.findIn K (.ref x_BadLive) "__getattribute__" = some (some (.builtin "BaseException.__getattribute__")))
    (ec3_BadLive : PySem.W.findIn K (.ref x_BadLive) "__getattr__" = some none)
    (ec4_BadLive : PySem.W.subIn K (.ref x_BadLive) (.type "BaseException") = some true)
    (ec5_BadLive : PySem.W.findIn K (.ref x_BadLive) "__class__" = some (some (.builtin "object.__class__")))
    (ec6_BadLive : PySem.W.mroIn K x_BadLive (.type "object") = some true)
    (ec7_BadLive : PySem.W.hasDictIn K x_BadLive = true)
    (ec8_BadLive : PySem.W.typeIn K (.ref x_BadLive) = some (.type "type"))
    (ec9_BadLive : PySem.W.keepIn K (.ref x_BadLive) = true)
    (b_BadLive : PySem.W.subIn K (.ref x_BadLive) (.ref x_BoxError) = some true)
    (x1_BadLive : PySem.W.excIn K x_BadLive veAll "ValueError.__new__" = true)
    (n_BadName : PySem.W.nsIn K mainGlobals "BadName" = some (some (.ref x_BadName)))
    (ec1_BadName : PySem.W.isClsIn K x_BadName = true)
    (ec2_BadName : PySem.W.findIn K (.ref x_BadName) "__getattribute__" = some (some (.builtin "BaseException.__getattribute__")))
    (ec3_BadName : PySem.W.findIn K (.ref x_BadName) "__getattr__" = some none)
    (ec4_BadName : PySem.W.subIn K (.ref x_BadName) (.type "BaseException") = some true)
    (ec5_BadName : PySem.W.findIn K (.ref x_BadName) "__class__" = some (some (.builtin "object.__class__")))
    (ec6_BadName : PySem.W.mroIn K x_BadName (.type "object") = some true)
    (ec7_BadName : PySem.W.hasDictIn K x_BadName = true)
    (ec8_BadName : PySem.W.typeIn K (.ref x_BadName) = some (.type "type"))
    (ec9_BadName : PySem.W.keepIn K (.ref x_BadName) = true)
    (b_BadName : PySem.W.subIn K (.ref x_BadName) (.ref x_BoxError) = some true)
    (x1_BadName : PySem.W.excIn K x_BadName veAll "ValueError.__new__" = true)
    (n_BadText : PySem.W.nsIn K mainGlobals "BadText" = some (some (.ref x_BadText)))
    (ec1_BadText : PySem.W.isClsIn K x_BadText = true)
    (ec2_BadText : PySem.W.findIn K (.ref x_BadText) "__getattribute__" = some (some (.builtin "BaseException.__getattribute__")))
    (ec3_BadText : PySem.W.findIn K (.ref x_BadText) "__getattr__" = some none)
    (ec4_BadText : PySem.W.subIn K (.ref x_BadText) (.type "BaseException") = some true)
    (ec5_BadText : PySem.W.findIn K (.ref x_BadText) "__class__" = some (some (.builtin "object.__class__")))
    (ec6_BadText : PySem.W.mroIn K x_BadText (.type "object") = some true)
    (ec7_BadText : PySem.W.hasDictIn K x_BadText = true)
    (ec8_BadText : PySem.W.typeIn K (.ref x_BadText) = some (.type "type"))
    (ec9_BadText : PySem.W.keepIn K (.ref x_BadText) = true)
    (b_BadText : PySem.W.subIn K (.ref x_BadText) (.ref x_BoxError) = some true)
    (L_BadText : K.lookup x_BadText = some (excClassObj nm_BadText q_BadText x_BadText N_BadText bs_BadText bm_BadText true sn_BadText sbl_BadText ab_BadText col_BadText dd_BadText e0_BadText e1_BadText e2_BadText e3_BadText e5_BadText "ValueError.__new__"))
    (rb_BadText : PySem.HandSPX.refsVE bm_BadText = true)
    (sa_BadText : PySem.W.findIn K (.ref x_BadText) "__setattr__" = some (some (.builtin "object.__setattr__")))
    (nf_BadText : PySem.W.findIn K (.ref x_BadText) "at" = some none)
    (ii_BadText : PySem.W.findIn K (.ref x_BadText) "__init__" = some (some (.ref i_BadText)))
    (it_BadText : PySem.W.typeIn K (.ref i_BadText) = some (.type "function"))
    (il_BadText : K.lookup i_BadText = some ⟨ioc_BadText, iod_BadText, .func (PySem.W.ksFn "__init__" iq_BadText (defArgs (initOf (top 26))) (defBody (initOf (top 26))) (defScope (initOf (top 26))) .none .none idc_BadText ipm_BadText ian_BadText (.ref ca_BadText) ict_BadText cc_BadText), isl_BadText⟩)
    (ic_BadText : PySem.W.codeIn K (.ref ca_BadText) iq_BadText = true)
    (cl1_BadText : K.lookup ca_BadText = some ⟨cl_BadText, cld_BadText, .fields vs_BadText, csl_BadText⟩)
    (cf_BadText : vs_BadText[2]? = some (.str fi_BadText ft_BadText))
    (ce_BadText : ((P.main.file : Str) == fi_BadText) = true)
    (kc_BadText : K.lookup cc_BadText = some ⟨kl_BadText, kld_BadText, .cell (some (.ref x_BadText)), ksl_BadText⟩)
    (m1_BadText : PySem.W.mroIn K x_BadText (.ref x_BadText) = some true)
    (su_BadText : PySem.W.ks_superIn K x_BadText x_BadText "__init__" = some (some (.builtin "ValueError.__init__")))
    (ve_BadText : PySem.W.subIn K (.ref x_BadText) (.type "ValueError") = some true)
    (n_NoWatch : PySem.W.nsIn K mainGlobals "NoWatch" = some (some (.ref x_NoWatch)))
    (ec1_NoWatch : PySem.W.isClsIn K x_NoWatch = true)
    (ec2_NoWatch : PySem.W.findIn K (.ref x_NoWatch) "__getattribute__" = some (some (.builtin "BaseException.__getattribute__")))
    (ec3_NoWatch : PySem.W.findIn K (.ref x_NoWatch) "__getattr__" = some none)
    (ec4_NoWatch : PySem.W.subIn K (.ref x_NoWatch) (.type "BaseException") = some true)
    (ec5_NoWatch : PySem.W.findIn K (.ref x_NoWatch) "__class__" = some (some (.builtin "object.__class__")))
    (ec6_NoWatch : PySem.W.mroIn K x_NoWatch (.type "object") = some true)
    (ec7_NoWatch : PySem.W.hasDictIn K x_NoWatch = true)
    (ec8_NoWatch : PySem.W.typeIn K (.ref x_NoWatch) = some (.type "type"))
    (ec9_NoWatch : PySem.W.keepIn K (.ref x_NoWatch) = true)
    (b_NoWatch : PySem.W.subIn K (.ref x_NoWatch) (.ref x_BoxError) = some true)
    (L_NoWatch : K.lookup x_NoWatch = some (excClassObj nm_NoWatch q_NoWatch x_NoWatch N_NoWatch bs_NoWatch bm_NoWatch true sn_NoWatch sbl_NoWatch ab_NoWatch col_NoWatch dd_NoWatch e0_NoWatch e1_NoWatch e2_NoWatch e3_NoWatch e5_NoWatch "ValueError.__new__"))
    (rb_NoWatch : PySem.HandSPX.refsVE bm_NoWatch = true)
    (sa_NoWatch : PySem.W.findIn K (.ref x_NoWatch) "__setattr__" = some (some (.builtin "object.__setattr__")))
    (nf_NoWatch : PySem.W.findIn K (.ref x_NoWatch) "name" = some none)
    (ii_NoWatch : PySem.W.findIn K (.ref x_NoWatch) "__init__" = some (some (.ref i_NoWatch)))
    (it_NoWatch : PySem.W.typeIn K (.ref i_NoWatch) = some (.type "function"))
    (il_NoWatch : K.lookup i_NoWatch = some ⟨ioc_NoWatch, iod_NoWatch, .func (PySem.W.ksFn "__init__" iq_NoWatch (defArgs (initOf (top 27))) (defBody (initOf (top 27))) (defScope (initOf (top 27))) .none .none idc_NoWatch ipm_NoWatch ian_NoWatch (.ref ca_NoWatch) ict_NoWatch cc_NoWatch), isl_NoWatch⟩)
    (ic_NoWatch : PySem.W.codeIn K (.ref ca_NoWatch) iq_NoWatch = true)
    (cl1_NoWatch : K.lookup ca_NoWatch = some ⟨cl_NoWatch, cld_NoWatch, .fields vs_NoWatch, csl_NoWatch⟩)
    (cf_NoWatch : vs_NoWatch[2]? = some (.str fi_NoWatch ft_NoWatch))
    (ce_NoWatch : ((P.main.file : Str) == fi_NoWatch) = true)
    (kc_NoWatch : K.lookup cc_NoWatch = some ⟨kl_NoWatch, kld_NoWatch, .cell (some (.ref x_NoWatch)), ksl_NoWatch⟩)
    (m1_NoWatch : PySem.W.mroIn K x_NoWatch (.ref x_NoWatch) = some true)
    (su_NoWatch : PySem.W.ks_superIn K x_NoWatch x_NoWatch "__init__" = some (some (.builtin "ValueError.__init__")))
    (ve_NoWatch : PySem.W.subIn K (.ref x_NoWatch) (.type "ValueError") = some true)
    (n_NothingLeft : PySem.W.nsIn K mainGlobals "NothingLeft" = some (some (.ref x_NothingLeft)))
    (ec1_NothingLeft : PySem.W.isClsIn K x_NothingLeft = true)
    (ec2_NothingLeft : PySem.W.findIn K (.ref x_NothingLeft) "__getattribute__" = some (some (.builtin "BaseException.__getattribute__")))
    (ec3_NothingLeft : PySem.W.findIn K (.ref x_NothingLeft) "__getattr__" = some none)
    (ec4_NothingLeft : PySem.W.subIn K (.ref x_NothingLeft) (.type "BaseException") = some true)
    (ec5_NothingLeft : PySem.W.findIn K (.ref x_NothingLeft) "__class__" = some (some (.builtin "object.__class__")))
    (ec6_NothingLeft : PySem.W.mroIn K x_NothingLeft (.type "object") = some true)
    (ec7_NothingLeft : PySem.W.hasDictIn K x_NothingLeft = true)
    (ec8_NothingLeft : PySem.W.typeIn K (.ref x_NothingLeft) = some (.type "type"))
    (ec9_NothingLeft : PySem.W.keepIn K (.ref x_NothingLeft) = true)
    (b_NothingLeft : PySem.W.subIn K (.ref x_NothingLeft) (.ref x_BoxError) = some true)
    (x1_NothingLeft : PySem.W.excIn K x_NothingLeft veAll "ValueError.__new__" = true)
    (kn_BadActing : PySem.W.kitOne K (.type "NoneType") (.ref x_BadActing) = some false)
    (ki_BadActing_BoxError : PySem.W.kitOne K (.ref x_BoxError) (.ref x_BadActing) = some false)
    (ki_BadActing_BadPrime : PySem.W.kitOne K (.ref x_BadPrime) (.ref x_BadActing) = some false)
    (ki_BadActing_BadNumber : PySem.W.kitOne K (.ref x_BadNumber) (.ref x_BadActing) = some false)
    (ki_BadActing_BadShape : PySem.W.kitOne K (.ref x_BadShape) (.ref x_BadActing) = some false)
    (ki_BadActing_BadBox : PySem.W.kitOne K (.ref x_BadBox) (.ref x_BadActing) = some false)
    (ki_BadActing_BadFilling : PySem.W.kitOne K (.ref x_BadFilling) (.ref x_BadActing) = some false)
    (ki_BadActing_BadOrder : PySem.W.kitOne K (.ref x_BadOrder) (.ref x_BadActing) = some false)
    (ki_BadActing_BadSum : PySem.W.kitOne K (.ref x_BadSum) (.ref x_BadActing) = some false)
    (ki_BadActing_BadWord : PySem.W.kitOne K (.ref x_BadWord) (.ref x_BadActing) = some false)
    (ki_BadActing_TooMany : PySem.W.kitOne K (.ref x_TooMany) (.ref x_BadActing) = some false)
    (ki_BadActing_BadPowers : PySem.W.kitOne K (.ref x_BadPowers) (.ref x_BadActing) = some false)
    (ki_BadActing_BadCourse : PySem.W.kitOne K (.ref x_BadCourse) (.ref x_BadActing) = some false)
    (ki_BadActing_NotFree : PySem.W.kitOne K (.ref x_NotFree) (.ref x_BadActing) = some false)
    (ki_BadActing_NotTold : PySem.W.kitOne K (.ref x_NotTold) (.ref x_BadActing) = some false)
    (ki_BadActing_BadActing : PySem.W.kitOne K (.ref x_BadActing) (.ref x_BadActing) = some true)
    (ki_BadActing_BadRows : PySem.W.kitOne K (.ref x_BadRows) (.ref x_BadActing) = some false)
    (ki_BadActing_BadWay : PySem.W.kitOne K (.ref x_BadWay) (.ref x_BadActing) = some false)
    (ki_BadActing_BadLines : PySem.W.kitOne K (.ref x_BadLines) (.ref x_BadActing) = some false)
    (ki_BadActing_BadSpread : PySem.W.kitOne K (.ref x_BadSpread) (.ref x_BadActing) = some false)
    (ki_BadActing_BadCell : PySem.W.kitOne K (.ref x_BadCell) (.ref x_BadActing) = some false)
    (ki_BadActing_NotHere : PySem.W.kitOne K (.ref x_NotHere) (.ref x_BadActing) = some false)
    (ki_BadActing_NotAlike : PySem.W.kitOne K (.ref x_NotAlike) (.ref x_BadActing) = some false)
    (ki_BadActing_BadDeed : PySem.W.kitOne K (.ref x_BadDeed) (.ref x_BadActing) = some false)
    (ki_BadActing_BadLive : PySem.W.kitOne K (.ref x_BadLive) (.ref x_BadActing) = some false)
    (ki_BadActing_BadName : PySem.W.kitOne K (.ref x_BadName) (.ref x_BadActing) = some false)
    (ki_BadActing_BadText : PySem.W.kitOne K (.ref x_BadText) (.ref x_BadActing) = some false)
    (ki_BadActing_NoWatch : PySem.W.kitOne K (.ref x_NoWatch) (.ref x_BadActing) = some false)
    (ki_BadActing_NothingLeft : PySem.W.kitOne K (.ref x_NothingLeft) (.ref x_BadActing) = some false)
    (kn_BadBox : PySem.W.kitOne K (.type "NoneType") (.ref x_BadBox) = some false)
    (ki_BadBox_BoxError : PySem.W.kitOne K (.ref x_BoxError) (.ref x_BadBox) = some false)
    (ki_BadBox_BadPrime : PySem.W.kitOne K (.ref x_BadPrime) (.ref x_BadBox) = some false)
    (ki_BadBox_BadNumber : PySem.W.kitOne K (.ref x_BadNumber) (.ref x_BadBox) = some false)
    (ki_BadBox_BadShape : PySem.W.kitOne K (.ref x_BadShape) (.ref x_BadBox) = some false)
    (ki_BadBox_BadBox : PySem.W.kitOne K (.ref x_BadBox) (.ref x_BadBox) = some true)
    (ki_BadBox_BadFilling : PySem.W.kitOne K (.ref x_BadFilling) (.ref x_BadBox) = some false)
    (ki_BadBox_BadOrder : PySem.W.kitOne K (.ref x_BadOrder) (.ref x_BadBox) = some false)
    (ki_BadBox_BadSum : PySem.W.kitOne K (.ref x_BadSum) (.ref x_BadBox) = some false)
    (ki_BadBox_BadWord : PySem.W.kitOne K (.ref x_BadWord) (.ref x_BadBox) = some false)
    (ki_BadBox_TooMany : PySem.W.kitOne K (.ref x_TooMany) (.ref x_BadBox) = some false)
    (ki_BadBox_BadPowers : PySem.W.kitOne K (.ref x_BadPowers) (.ref x_BadBox) = some false)
    (ki_BadBox_BadCourse : PySem.W.kitOne K (.ref x_BadCourse) (.ref x_BadBox) = some false)
    (ki_BadBox_NotFree : PySem.W.kitOne K (.ref x_NotFree) (.ref x_BadBox) = some false)
    (ki_BadBox_NotTold : PySem.W.kitOne K (.ref x_NotTold) (.ref x_BadBox) = some false)
    (ki_BadBox_BadActing : PySem.W.kitOne K (.ref x_BadActing) (.ref x_BadBox) = some false)
    (ki_BadBox_BadRows : PySem.W.kitOne K (.ref x_BadRows) (.ref x_BadBox) = some false)
    (ki_BadBox_BadWay : PySem.W.kitOne K (.ref x_BadWay) (.ref x_BadBox) = some false)
    (ki_BadBox_BadLines : PySem.W.kitOne K (.ref x_BadLines) (.ref x_BadBox) = some false)
    (ki_BadBox_BadSpread : PySem.W.kitOne K (.ref x_BadSpread) (.ref x_BadBox) = some false)
    (ki_BadBox_BadCell : PySem.W.kitOne K (.ref x_BadCell) (.ref x_BadBox) = some false)
    (ki_BadBox_NotHere : PySem.W.kitOne K (.ref x_NotHere) (.ref x_BadBox) = some false)
    (ki_BadBox_NotAlike : PySem.W.kitOne K (.ref x_NotAlike) (.ref x_BadBox) = some false)
    (ki_BadBox_BadDeed : PySem.W.kitOne K (.ref x_BadDeed) (.ref x_BadBox) = some false)
    (ki_BadBox_BadLive : PySem.W.kitOne K (.ref x_BadLive) (.ref x_BadBox) = some false)
    (ki_BadBox_BadName : PySem.W.kitOne K (.ref x_BadName) (.ref x_BadBox) = some false)
    (ki_BadBox_BadText : PySem.W.kitOne K (.ref x_BadText) (.ref x_BadBox) = some false)
    (ki_BadBox_NoWatch : PySem.W.kitOne K (.ref x_NoWatch) (.ref x_BadBox) = some false)
    (ki_BadBox_NothingLeft : PySem.W.kitOne K (.ref x_NothingLeft) (.ref x_BadBox) = some false)
    (kn_BadCell : PySem.W.kitOne K (.type "NoneType") (.ref x_BadCell) = some false)
    (ki_BadCell_BoxError : PySem.W.kitOne K (.ref x_BoxError) (.ref x_BadCell) = some false)
    (ki_BadCell_BadPrime : PySem.W.kitOne K (.ref x_BadPrime) (.ref x_BadCell) = some false)
    (ki_BadCell_BadNumber : PySem.W.kitOne K (.ref x_BadNumber) (.ref x_BadCell) = some false)
    (ki_BadCell_BadShape : PySem.W.kitOne K (.ref x_BadShape) (.ref x_BadCell) = some false)
    (ki_BadCell_BadBox : PySem.W.kitOne K (.ref x_BadBox) (.ref x_BadCell) = some false)
    (ki_BadCell_BadFilling : PySem.W.kitOne K (.ref x_BadFilling) (.ref x_BadCell) = some false)
    (ki_BadCell_BadOrder : PySem.W.kitOne K (.ref x_BadOrder) (.ref x_BadCell) = some false)
    (ki_BadCell_BadSum : PySem.W.kitOne K (.ref x_BadSum) (.ref x_BadCell) = some false)
    (ki_BadCell_BadWord : PySem.W.kitOne K (.ref x_BadWord) (.ref x_BadCell) = some false)
    (ki_BadCell_TooMany : PySem.W.kitOne K (.ref x_TooMany) (.ref x_BadCell) = some false)
    (ki_BadCell_BadPowers : PySem.W.kitOne K (.ref x_BadPowers) (.ref x_BadCell) = some false)
    (ki_BadCell_BadCourse : PySem.W.kitOne K (.ref x_BadCourse) (.ref x_BadCell) = some false)
    (ki_BadCell_NotFree : PySem.W.kitOne K (.ref x_NotFree) (.ref x_BadCell) = some false)
    (ki_BadCell_NotTold : PySem.W.kitOne K (.ref x_NotTold) (.ref x_BadCell) = some false)
    (ki_BadCell_BadActing : PySem.W.kitOne K (.ref x_BadActing) (.ref x_BadCell) = some false)
    (ki_BadCell_BadRows : PySem.W.kitOne K (.ref x_BadRows) (.ref x_BadCell) = some false)
    (ki_BadCell_BadWay : PySem.W.kitOne K (.ref x_BadWay) (.ref x_BadCell) = some false)
    (ki_BadCell_BadLines : PySem.W.kitOne K (.ref x_BadLines) (.ref x_BadCell) = some false)
    (ki_BadCell_BadSpread : PySem.W.kitOne K (.ref x_BadSpread) (.ref x_BadCell) = some false)
    (ki_BadCell_BadCell : PySem.W.kitOne K (.ref x_BadCell) (.ref x_BadCell) = some true)
    (ki_BadCell_NotHere : PySem.W.kitOne K (.ref x_NotHere) (.ref x_BadCell) = some false)
    (ki_BadCell_NotAlike : PySem.W.kitOne K (.ref x_NotAlike) (.ref x_BadCell) = some false)
    (ki_BadCell_BadDeed : PySem.W.kitOne K (.ref x_BadDeed) (.ref x_BadCell) = some false)
    (ki_BadCell_BadLive : PySem.W.kitOne K (.ref x_BadLive) (.ref x_BadCell) = some false)
    (ki_BadCell_BadName : PySem.W.kitOne K (.ref x_BadName) (.ref x_BadCell) = some false)
    (ki_BadCell_BadText : PySem.W.kitOne K (.ref x_BadText) (.ref x_BadCell) = some false)
    (ki_BadCell_NoWatch : PySem.W.kitOne K (.ref x_NoWatch) (.ref x_BadCell) = some false)
    (ki_BadCell_NothingLeft : PySem.W.kitOne K (.ref x_NothingLeft) (.ref x_BadCell) = some false)
    (kn_BadCourse : PySem.W.kitOne K (.type "NoneType") (.ref x_BadCourse) = some false)
    (ki_BadCourse_BoxError : PySem.W.kitOne K (.ref x_BoxError) (.ref x_BadCourse) = some false)
    (ki_BadCourse_BadPrime : PySem.W.kitOne K (.ref x_BadPrime) (.ref x_BadCourse) = some false)
    (ki_BadCourse_BadNumber : PySem.W.kitOne K (.ref x_BadNumber) (.ref x_BadCourse) = some false)
    (ki_BadCourse_BadShape : PySem.W.kitOne K (.ref x_BadShape) (.ref x_BadCourse) = some false)
    (ki_BadCourse_BadBox : PySem.W.kitOne K (.ref x_BadBox) (.ref x_BadCourse) = some false)
    (ki_BadCourse_BadFilling : PySem.W.kitOne K (.ref x_BadFilling) (.ref x_BadCourse) = some false)
    (ki_BadCourse_BadOrder : PySem.W.kitOne K (.ref x_BadOrder) (.ref x_BadCourse) = some false)
    (ki_BadCourse_BadSum : PySem.W.kitOne K (.ref x_BadSum) (.ref x_BadCourse) = some false)
    (ki_BadCourse_BadWord : PySem.W.kitOne K (.ref x_BadWord) (.ref x_BadCourse) = some false)
    (ki_BadCourse_TooMany : PySem.W.kitOne K (.ref x_TooMany) (.ref x_BadCourse) = some false)
    (ki_BadCourse_BadPowers : PySem.W.kitOne K (.ref x_BadPowers) (.ref x_BadCourse) = some false)
    (ki_BadCourse_BadCourse : PySem.W.kitOne K (.ref x_BadCourse) (.ref x_BadCourse) = some true)
    (ki_BadCourse_NotFree : PySem.W.kitOne K (.ref x_NotFree) (.ref x_BadCourse) = some false)
    (ki_BadCourse_NotTold : PySem.W.kitOne K (.ref x_NotTold) (.ref x_BadCourse) = some false)
    (ki_BadCourse_BadActing : PySem.W.kitOne K (.ref x_BadActing) (.ref x_BadCourse) = some false)
    (ki_BadCourse_BadRows : PySem.W.kitOne K (.ref x_BadRows) (.ref x_BadCourse) = some false)
    (ki_BadCourse_BadWay : PySem.W.kitOne K (.ref x_BadWay) (.ref x_BadCourse) = some false)
    (ki_BadCourse_BadLines : PySem.W.kitOne K (.ref x_BadLines) (.ref x_BadCourse) = some false)
    (ki_BadCourse_BadSpread : PySem.W.kitOne K (.ref x_BadSpread) (.ref x_BadCourse) = some false)
    (ki_BadCourse_BadCell : PySem.W.kitOne K (.ref x_BadCell) (.ref x_BadCourse) = some false)
    (ki_BadCourse_NotHere : PySem.W.kitOne K (.ref x_NotHere) (.ref x_BadCourse) = some false)
    (ki_BadCourse_NotAlike : PySem.W.kitOne K (.ref x_NotAlike) (.ref x_BadCourse) = some false)
    (ki_BadCourse_BadDeed : PySem.W.kitOne K (.ref x_BadDeed) (.ref x_BadCourse) = some false)
    (ki_BadCourse_BadLive : PySem.W.kitOne K (.ref x_BadLive) (.ref x_BadCourse) = some false)
    (ki_BadCourse_BadName : PySem.W.kitOne K (.ref x_BadName) (.ref x_BadCourse) = some false)
    (ki_BadCourse_BadText : PySem.W.kitOne K (.ref x_BadText) (.ref x_BadCourse) = some false)
    (ki_BadCourse_NoWatch : PySem.W.kitOne K (.ref x_NoWatch) (.ref x_BadCourse) = some false)
    (ki_BadCourse_NothingLeft : PySem.W.kitOne K (.ref x_NothingLeft) (.ref x_BadCourse) = some false)
    (kn_BadDeed : PySem.W.kitOne K (.type "NoneType") (.ref x_BadDeed) = some false)
    (ki_BadDeed_BoxError : PySem.W.kitOne K (.ref x_BoxError) (.ref x_BadDeed) = some false)
    (ki_BadDeed_BadPrime : PySem.W.kitOne K (.ref x_BadPrime) (.ref x_BadDeed) = some false)
    (ki_BadDeed_BadNumber : PySem.W.kitOne K (.ref x_BadNumber) (.ref x_BadDeed) = some false)
    (ki_BadDeed_BadShape : PySem.W.kitOne K (.ref x_BadShape) (.ref x_BadDeed) = some false)
    (ki_BadDeed_BadBox : PySem.W.kitOne K (.ref x_BadBox) (.ref x_BadDeed) = some false)
    (ki_BadDeed_BadFilling : PySem.W.kitOne K (.ref x_BadFilling) (.ref x_BadDeed) = some false)
    (ki_BadDeed_BadOrder : PySem.W.kitOne K (.ref x_BadOrder) (.ref x_BadDeed) = some false)
    (ki_BadDeed_BadSum : PySem.W.kitOne K (.ref x_BadSum) (.ref x_BadDeed) = some false)
    (ki_BadDeed_BadWord : PySem.W.kitOne K (.ref x_BadWord) (.ref x_BadDeed) = some false)
    (ki_BadDeed_TooMany : PySem.W.kitOne K (.ref x_TooMany) (.ref x_BadDeed) = some false)
    (ki_BadDeed_BadPowers : PySem.W.kitOne K (.ref x_BadPowers) (.ref x_BadDeed) = some false)
    (ki_BadDeed_BadCourse : PySem.W.kitOne K (.ref x_BadCourse) (.ref x_BadDeed) = some false)
    (ki_BadDeed_NotFree : PySem.W.kitOne K (.ref x_NotFree) (.ref x_BadDeed) = some false)
    (ki_BadDeed_NotTold : PySem.W.kitOne K (.ref x_NotTold) (.ref x_BadDeed) = some false)
    (ki_BadDeed_BadActing : PySem.W.kitOne K (.ref x_BadActing) (.ref x_BadDeed) = some false)
    (ki_BadDeed_BadRows : PySem.W.kitOne K (.ref x_BadRows) (.ref x_BadDeed) = some false)
    (ki_BadDeed_BadWay : PySem.W.kitOne K (.ref x_BadWay) (.ref x_BadDeed) = some false)
    (ki_BadDeed_BadLines : PySem.W.kitOne K (.ref x_BadLines) (.ref x_BadDeed) = some false)
    (ki_BadDeed_BadSpread : PySem.W.kitOne K (.ref x_BadSpread) (.ref x_BadDeed) = some false)
    (ki_BadDeed_BadCell : PySem.W.kitOne K (.ref x_BadCell) (.ref x_BadDeed) = some false)
    (ki_BadDeed_NotHere : PySem.W.kitOne K (.ref x_NotHere) (.ref x_BadDeed) = some false)
    (ki_BadDeed_NotAlike : PySem.W.kitOne K (.ref x_NotAlike) (.ref x_BadDeed) = some false)
    (ki_BadDeed_BadDeed : PySem.W.kitOne K (.ref x_BadDeed) (.ref x_BadDeed) = some true)
    (ki_BadDeed_BadLive : PySem.W.kitOne K (.ref x_BadLive) (.ref x_BadDeed) = some false)
    (ki_BadDeed_BadName : PySem.W.kitOne K (.ref x_BadName) (.ref x_BadDeed) = some false)
    (ki_BadDeed_BadText : PySem.W.kitOne K (.ref x_BadText) (.ref x_BadDeed) = some false)
    (ki_BadDeed_NoWatch : PySem.W.kitOne K (.ref x_NoWatch) (.ref x_BadDeed) = some false)
    (ki_BadDeed_NothingLeft : PySem.W.kitOne K (.ref x_NothingLeft) (.ref x_BadDeed) = some false)
    (kn_BadFilling : PySem.W.kitOne K (.type "NoneType") (.ref x_BadFilling) = some false)
    (ki_BadFilling_BoxError : PySem.W.kitOne K (.ref x_BoxError) (.ref x_BadFilling) = some false)
    (ki_BadFilling_BadPrime : PySem.W.kitOne K (.ref x_BadPrime) (.ref x_BadFilling) = some false)
    (ki_BadFilling_BadNumber : PySem.W.kitOne K (.ref x_BadNumber) (.ref x_BadFilling) = some false)
    (ki_BadFilling_BadShape : PySem.W.kitOne K (.ref x_BadShape) (.ref x_BadFilling) = some false)
    (ki_BadFilling_BadBox : PySem.W.kitOne K (.ref x_BadBox) (.ref x_BadFilling) = some false)
    (ki_BadFilling_BadFilling : PySem.W.kitOne K (.ref x_BadFilling) (.ref x_BadFilling) = some true)
    (ki_BadFilling_BadOrder : PySem.W.kitOne K (.ref x_BadOrder) (.ref x_BadFilling) = some false)
    (ki_BadFilling_BadSum : PySem.W.kitOne K (.ref x_BadSum) (.ref x_BadFilling) = some false)
    (ki_BadFilling_BadWord : PySem.W.kitOne K (.ref x_BadWord) (.ref x_BadFilling) = some false)
    (ki_BadFilling_TooMany : PySem.W.kitOne K (.ref x_TooMany) (.ref x_BadFilling) = some false)
    (ki_BadFilling_BadPowers : PySem.W.kitOne K (.ref x_BadPowers) (.ref x_BadFilling) = some false)
    (ki_BadFilling_BadCourse : PySem.W.kitOne K (.ref x_BadCourse) (.ref x_BadFilling) = some false)
    (ki_BadFilling_NotFree : PySem.W.kitOne K (.ref x_NotFree) (.ref x_BadFilling) = some false)
    (ki_BadFilling_NotTold : PySem.W.kitOne K (.ref x_NotTold) (.ref x_BadFilling) = some false)
    (ki_BadFilling_BadActing : PySem.W.kitOne K (.ref x_BadActing) (.ref x_BadFilling) = some false)
    (ki_BadFilling_BadRows : PySem.W.kitOne K (.ref x_BadRows) (.ref x_BadFilling) = some false)
    (ki_BadFilling_BadWay : PySem.W.kitOne K (.ref x_BadWay) (.ref x_BadFilling) = some false)
    (ki_BadFilling_BadLines : PySem.W.kitOne K (.ref x_BadLines) (.ref x_BadFilling) = some false)
    (ki_BadFilling_BadSpread : PySem.W.kitOne K (.ref x_BadSpread) (.ref x_BadFilling) = some false)
    (ki_BadFilling_BadCell : PySem.W.kitOne K (.ref x_BadCell) (.ref x_BadFilling) = some false)
    (ki_BadFilling_NotHere : PySem.W.kitOne K (.ref x_NotHere) (.ref x_BadFilling) = some false)
    (ki_BadFilling_NotAlike : PySem.W.kitOne K (.ref x_NotAlike) (.ref x_BadFilling) = some false)
    (ki_BadFilling_BadDeed : PySem.W.kitOne K (.ref x_BadDeed) (.ref x_BadFilling) = some false)
    (ki_BadFilling_BadLive : PySem.W.kitOne K (.ref x_BadLive) (.ref x_BadFilling) = some false)
    (ki_BadFilling_BadName : PySem.W.kitOne K (.ref x_BadName) (.ref x_BadFilling) = some false)
    (ki_BadFilling_BadText : PySem.W.kitOne K (.ref x_BadText) (.ref x_BadFilling) = some false)
    (ki_BadFilling_NoWatch : PySem.W.kitOne K (.ref x_NoWatch) (.ref x_BadFilling) = some false)
    (ki_BadFilling_NothingLeft : PySem.W.kitOne K (.ref x_NothingLeft) (.ref x_BadFilling) = some false)
    (kn_BadLines : PySem.W.kitOne K (.type "NoneType") (.ref x_BadLines) = some false)
    (ki_BadLines_BoxError : PySem.W.kitOne K (.ref x_BoxError) (.ref x_BadLines) = some false)
    (ki_BadLines_BadPrime : PySem.W.kitOne K (.ref x_BadPrime) (.ref x_BadLines) = some false)
    (ki_BadLines_BadNumber : PySem.W.kitOne K (.ref x_BadNumber) (.ref x_BadLines) = some false)
    (ki_BadLines_BadShape : PySem.W.kitOne K (.ref x_BadShape) (.ref x_BadLines) = some false)
    (ki_BadLines_BadBox : PySem.W.kitOne K (.ref x_BadBox) (.ref x_BadLines) = some false)
    (ki_BadLines_BadFilling : PySem.W.kitOne K (.ref x_BadFilling) (.ref x_BadLines) = some false)
    (ki_BadLines_BadOrder : PySem.W.kitOne K (.ref x_BadOrder) (.ref x_BadLines) = some false)
    (ki_BadLines_BadSum : PySem.W.kitOne K (.ref x_BadSum) (.ref x_BadLines) = some false)
    (ki_BadLines_BadWord : PySem.W.kitOne K (.ref x_BadWord) (.ref x_BadLines) = some false)
    (ki_BadLines_TooMany : PySem.W.kitOne K (.ref x_TooMany) (.ref x_BadLines) = some false)
    (ki_BadLines_BadPowers : PySem.W.kitOne K (.ref x_BadPowers) (.ref x_BadLines) = some false)
    (ki_BadLines_BadCourse : PySem.W.kitOne K (.ref x_BadCourse) (.ref x_BadLines) = some false)
    (ki_BadLines_NotFree : PySem.W.kitOne K (.ref x_NotFree) (.ref x_BadLines) = some false)
    (ki_BadLines_NotTold : PySem.W.kitOne K (.ref x_NotTold) (.ref x_BadLines) = some false)
    (ki_BadLines_BadActing : PySem.W.kitOne K (.ref x_BadActing) (.ref x_BadLines) = some false)
    (ki_BadLines_BadRows : PySem.W.kitOne K (.ref x_BadRows) (.ref x_BadLines) = some false)
    (ki_BadLines_BadWay : PySem.W.kitOne K (.ref x_BadWay) (.ref x_BadLines) = some false)
    (ki_BadLines_BadLines : PySem.W.kitOne K (.ref x_BadLines) (.ref x_BadLines) = some true)
    (ki_BadLines_BadSpread : PySem.W.kitOne K (.ref x_BadSpread) (.ref x_BadLines) = some false)
    (ki_BadLines_BadCell : PySem.W.kitOne K (.ref x_BadCell) (.ref x_BadLines) = some false)
    (ki_BadLines_NotHere : PySem.W.kitOne K (.ref x_NotHere) (.ref x_BadLines) = some false)
    (ki_BadLines_NotAlike : PySem.W.kitOne K (.ref x_NotAlike) (.ref x_BadLines) = some false)
    (ki_BadLines_BadDeed : PySem.W.kitOne K (.ref x_BadDeed) (.ref x_BadLines) = some false)
    (ki_BadLines_BadLive : PySem.W.kitOne K (.ref x_BadLive) (.ref x_BadLines) = some false)
    (ki_BadLines_BadName : PySem.W.kitOne K (.ref x_BadName) (.ref x_BadLines) = some false)
    (ki_BadLines_BadText : PySem.W.kitOne K (.ref x_BadText) (.ref x_BadLines) = some false)
    (ki_BadLines_NoWatch : PySem.W.kitOne K (.ref x_NoWatch) (.ref x_BadLines) = some false)
    (ki_BadLines_NothingLeft : PySem.W.kitOne K (.ref x_NothingLeft) (.ref x_BadLines) = some false)
    (kn_BadLive : PySem.W.kitOne K (.type "NoneType") (.ref x_BadLive) = some false)
    (ki_BadLive_BoxError : PySem.W.kitOne K (.ref x_BoxError) (.ref x_BadLive) = some false)
    (ki_BadLive_BadPrime : PySem.W.kitOne K (.ref x_BadPrime) (.ref x_BadLive) = some false)
    (ki_BadLive_BadNumber : PySem.W.kitOne K (.ref x_BadNumber) (.ref x_BadLive) = some false)
    (ki_BadLive_BadShape : PySem.W.kitOne K (.ref x_BadShape) (.ref x_BadLive) = some false)
    (ki_BadLive_BadBox : PySem.W.kitOne K (.ref x_BadBox) (.ref x_BadLive) = some false)
    (ki_BadLive_BadFilling : PySem.W.kitOne K (.ref x_BadFilling) (.ref x_BadLive) = some false)
    (ki_BadLive_BadOrder : PySem.W.kitOne K (.ref x_BadOrder) (.ref x_BadLive) = some false)
    (ki_BadLive_BadSum : PySem.W.kitOne K (.ref x_BadSum) (.ref x_BadLive) = some false)
    (ki_BadLive_BadWord : PySem.W.kitOne K (.ref x_BadWord) (.ref x_BadLive) = some false)
    (ki_BadLive_TooMany : PySem.W.kitOne K (.ref x_TooMany) (.ref x_BadLive) = some false)
    (ki_BadLive_BadPowers : PySem.W.kitOne K (.ref x_BadPowers) (.ref x_BadLive) = some false)
    (ki_BadLive_BadCourse : PySem.W.kitOne K (.ref x_BadCourse) (.ref x_BadLive) = some false)
    (ki_BadLive_NotFree : PySem.W.kitOne K (.ref x_NotFree) (.ref x_BadLive) = some false)
    (ki_BadLive_NotTold : PySem.W.kitOne K (.ref x_NotTold) (.ref x_BadLive) = some false)
    (ki_BadLive_BadActing : PySem.W.kitOne K (.ref x_BadActing) (.ref x_BadLive) = some false)
    (ki_BadLive_BadRows : PySem.W.kitOne K (.ref x_BadRows) (.ref x_BadLive) = some false)
    (ki_BadLive_BadWay : PySem.W.kitOne K (.ref x_BadWay) (.ref x_BadLive) = some false)
    (ki_BadLive_BadLines : PySem.W.kitOne K (.ref x_BadLines) (.ref x_BadLive) = some false)
    (ki_BadLive_BadSpread : PySem.W.kitOne K (.ref x_BadSpread) (.ref x_BadLive) = some false)
    (ki_BadLive_BadCell : PySem.W.kitOne K (.ref x_BadCell) (.ref x_BadLive) = some false)
    (ki_BadLive_NotHere : PySem.W.kitOne K (.ref x_NotHere) (.ref x_BadLive) = some false)
    (ki_BadLive_NotAlike : PySem.W.kitOne K (.ref x_NotAlike) (.ref x_BadLive) = some false)
    (ki_BadLive_BadDeed : PySem.W.kitOne K (.ref x_BadDeed) (.ref x_BadLive) = some false)
    (ki_BadLive_BadLive : PySem.W.kitOne K (.ref x_BadLive) (.ref x_BadLive) = some true)
    (ki_BadLive_BadName : PySem.W.kitOne K (.ref x_BadName) (.ref x_BadLive) = some false)
    (ki_BadLive_BadText : PySem.W.kitOne K (.ref x_BadText) (.ref x_BadLive) = some false)
    (ki_BadLive_NoWatch : PySem.W.kitOne K (.ref x_NoWatch) (.ref x_BadLive) = some false)
    (ki_BadLive_NothingLeft : PySem.W.kitOne K (.ref x_NothingLeft) (.ref x_BadLive) = some false)
    (kn_BadName : PySem.W.kitOne K (.type "NoneType") (.ref x_BadName) = some false)
    (ki_BadName_BoxError : PySem.W.kitOne K (.ref x_BoxError) (.ref x_BadName) = some false)
    (ki_BadName_BadPrime : PySem.W.kitOne K (.ref x_BadPrime) (.ref x_BadName) = some false)
    (ki_BadName_BadNumber : PySem.W.kitOne K (.ref x_BadNumber) (.ref x_BadName) = some false)
    (ki_BadName_BadShape : PySem.W.kitOne K (.ref x_BadShape) (.ref x_BadName) = some false)
    (ki_BadName_BadBox : PySem.W.kitOne K (.ref x_BadBox) (.ref x_BadName) = some false)
    (ki_BadName_BadFilling : PySem.W.kitOne K (.ref x_BadFilling) (.ref x_BadName) = some false)
    (ki_BadName_BadOrder : PySem.W.kitOne K (.ref x_BadOrder) (.ref x_BadName) = some false)
    (ki_BadName_BadSum : PySem.W.kitOne K (.ref x_BadSum) (.ref x_BadName) = some false)
    (ki_BadName_BadWord : PySem.W.kitOne K (.ref x_BadWord) (.ref x_BadName) = some false)
    (ki_BadName_TooMany : PySem.W.kitOne K (.ref x_TooMany) (.ref x_BadName) = some false)
    (ki_BadName_BadPowers : PySem.W.kitOne K (.ref x_BadPowers) (.ref x_BadName) = some false)
    (ki_BadName_BadCourse : PySem.W.kitOne K (.ref x_BadCourse) (.ref x_BadName) = some false)
    (ki_BadName_NotFree : PySem.W.kitOne K (.ref x_NotFree) (.ref x_BadName) = some false)
    (ki_BadName_NotTold : PySem.W.kitOne K (.ref x_NotTold) (.ref x_BadName) = some false)
    (ki_BadName_BadActing : PySem.W.kitOne K (.ref x_BadActing) (.ref x_BadName) = some false)
    (ki_BadName_BadRows : PySem.W.kitOne K (.ref x_BadRows) (.ref x_BadName) = some false)
    (ki_BadName_BadWay : PySem.W.kitOne K (.ref x_BadWay) (.ref x_BadName) = some false)
    (ki_BadName_BadLines : PySem.W.kitOne K (.ref x_BadLines) (.ref x_BadName) = some false)
    (ki_BadName_BadSpread : PySem.W.kitOne K (.ref x_BadSpread) (.ref x_BadName) = some false)
    (ki_BadName_BadCell : PySem.W.kitOne K (.ref x_BadCell) (.ref x_BadName) = some false)
    (ki_BadName_NotHere : PySem.W.kitOne K (.ref x_NotHere) (.ref x_BadName) = some false)
    (ki_BadName_NotAlike : PySem.W.kitOne K (.ref x_NotAlike) (.ref x_BadName) = some false)
    (ki_BadName_BadDeed : PySem.W.kitOne K (.ref x_BadDeed) (.ref x_BadName) = some false)
    (ki_BadName_BadLive : PySem.W.kitOne K (.ref x_BadLive) (.ref x_BadName) = some false)
    (ki_BadName_BadName : PySem.W.kitOne K (.ref x_BadName) (.ref x_BadName) = some true)
    (ki_BadName_BadText : PySem.W.kitOne K (.ref x_BadText) (.ref x_BadName) = some false)
    (ki_BadName_NoWatch : PySem.W.kitOne K (.ref x_NoWatch) (.ref x_BadName) = some false)
    (ki_BadName_NothingLeft : PySem.W.kitOne K (.ref x_NothingLeft) (.ref x_BadName) = some false)
    (kn_BadNumber : PySem.W.kitOne K (.type "NoneType") (.ref x_BadNumber) = some false)
    (ki_BadNumber_BoxError : PySem.W.kitOne K (.ref x_BoxError) (.ref x_BadNumber) = some false)
    (ki_BadNumber_BadPrime : PySem.W.kitOne K (.ref x_BadPrime) (.ref x_BadNumber) = some false)
    (ki_BadNumber_BadNumber : PySem.W.kitOne K (.ref x_BadNumber) (.ref x_BadNumber) = some true)
    (ki_BadNumber_BadShape : PySem.W.kitOne K (.ref x_BadShape) (.ref x_BadNumber) = some false)
    (ki_BadNumber_BadBox : PySem.W.kitOne K (.ref x_BadBox) (.ref x_BadNumber) = some false)
    (ki_BadNumber_BadFilling : PySem.W.kitOne K (.ref x_BadFilling) (.ref x_BadNumber) = some false)
    (ki_BadNumber_BadOrder : PySem.W.kitOne K (.ref x_BadOrder) (.ref x_BadNumber) = some false)
    (ki_BadNumber_BadSum : PySem.W.kitOne K (.ref x_BadSum) (.ref x_BadNumber) = some false)
    (ki_BadNumber_BadWord : PySem.W.kitOne K (.ref x_BadWord) (.ref x_BadNumber) = some false)
    (ki_BadNumber_TooMany : PySem.W.kitOne K (.ref x_TooMany) (.ref x_BadNumber) = some false)
    (ki_BadNumber_BadPowers : PySem.W.kitOne K (.ref x_BadPowers) (.ref x_BadNumber) = some false)
    (ki_BadNumber_BadCourse : PySem.W.kitOne K (.ref x_BadCourse) (.ref x_BadNumber) = some false)
    (ki_BadNumber_NotFree : PySem.W.kitOne K (.ref x_NotFree) (.ref x_BadNumber) = some false)
    (ki_BadNumber_NotTold : PySem.W.kitOne K (.ref x_NotTold) (.ref x_BadNumber) = some false)
    (ki_BadNumber_BadActing : PySem.W.kitOne K (.ref x_BadActing) (.ref x_BadNumber) = some false)
    (ki_BadNumber_BadRows : PySem.W.kitOne K (.ref x_BadRows) (.ref x_BadNumber) = some false)
    (ki_BadNumber_BadWay : PySem.W.kitOne K (.ref x_BadWay) (.ref x_BadNumber) = some false)
    (ki_BadNumber_BadLines : PySem.W.kitOne K (.ref x_BadLines) (.ref x_BadNumber) = some false)
    (ki_BadNumber_BadSpread : PySem.W.kitOne K (.ref x_BadSpread) (.ref x_BadNumber) = some false)
    (ki_BadNumber_BadCell : PySem.W.kitOne K (.ref x_BadCell) (.ref x_BadNumber) = some false)
    (ki_BadNumber_NotHere : PySem.W.kitOne K (.ref x_NotHere) (.ref x_BadNumber) = some false)
    (ki_BadNumber_NotAlike : PySem.W.kitOne K (.ref x_NotAlike) (.ref x_BadNumber) = some false)
    (ki_BadNumber_BadDeed : PySem.W.kitOne K (.ref x_BadDeed) (.ref x_BadNumber) = some false)
    (ki_BadNumber_BadLive : PySem.W.kitOne K (.ref x_BadLive) (.ref x_BadNumber) = some false)
    (ki_BadNumber_BadName : PySem.W.kitOne K (.ref x_BadName) (.ref x_BadNumber) = some false)
    (ki_BadNumber_BadText : PySem.W.kitOne K (.ref x_BadText) (.ref x_BadNumber) = some false)
    (ki_BadNumber_NoWatch : PySem.W.kitOne K (.ref x_NoWatch) (.ref x_BadNumber) = some false)
    (ki_BadNumber_NothingLeft : PySem.W.kitOne K (.ref x_NothingLeft) (.ref x_BadNumber) = some false)
    (kn_BadOrder : PySem.W.kitOne K (.type "NoneType") (.ref x_BadOrder) = some false)
    (ki_BadOrder_BoxError : PySem.W.kitOne K (.ref x_BoxError) (.ref x_BadOrder) = some false)
    (ki_BadOrder_BadPrime : PySem.W.kitOne K (.ref x_BadPrime) (.ref x_BadOrder) = some false)
    (ki_BadOrder_BadNumber : PySem.W.kitOne K (.ref x_BadNumber) (.ref x_BadOrder) = some false)
    (ki_BadOrder_BadShape : PySem.W.kitOne K (.ref x_BadShape) (.ref x_BadOrder) = some false)
    (ki_BadOrder_BadBox : PySem.W.kitOne K (.ref x_BadBox) (.ref x_BadOrder) = some false)
    (ki_BadOrder_BadFilling : PySem.W.kitOne K (.ref x_BadFilling) (.ref x_BadOrder) = some false)
    (ki_BadOrder_BadOrder : PySem.W.kitOne K (.ref x_BadOrder) (.ref x_BadOrder) = some true)
    (ki_BadOrder_BadSum : PySem.W.kitOne K (.ref x_BadSum) (.ref x_BadOrder) = some false)
    (ki_BadOrder_BadWord : PySem.W.kitOne K (.ref x_BadWord) (.ref x_BadOrder) = some false)
    (ki_BadOrder_TooMany : PySem.W.kitOne K (.ref x_TooMany) (.ref x_BadOrder) = some false)
    (ki_BadOrder_BadPowers : PySem.W.kitOne K (.ref x_BadPowers) (.ref x_BadOrder) = some false)
    (ki_BadOrder_BadCourse : PySem.W.kitOne K (.ref x_BadCourse) (.ref x_BadOrder) = some false)
    (ki_BadOrder_NotFree : PySem.W.kitOne K (.ref x_NotFree) (.ref x_BadOrder) = some false)
    (ki_BadOrder_NotTold : PySem.W.kitOne K (.ref x_NotTold) (.ref x_BadOrder) = some false)
    (ki_BadOrder_BadActing : PySem.W.kitOne K (.ref x_BadActing) (.ref x_BadOrder) = some false)
    (ki_BadOrder_BadRows : PySem.W.kitOne K (.ref x_BadRows) (.ref x_BadOrder) = some false)
    (ki_BadOrder_BadWay : PySem.W.kitOne K (.ref x_BadWay) (.ref x_BadOrder) = some false)
    (ki_BadOrder_BadLines : PySem.W.kitOne K (.ref x_BadLines) (.ref x_BadOrder) = some false)
    (ki_BadOrder_BadSpread : PySem.W.kitOne K (.ref x_BadSpread) (.ref x_BadOrder) = some false)
    (ki_BadOrder_BadCell : PySem.W.kitOne K (.ref x_BadCell) (.ref x_BadOrder) = some false)
    (ki_BadOrder_NotHere : PySem.W.kitOne K (.ref x_NotHere) (.ref x_BadOrder) = some false)
    (ki_BadOrder_NotAlike : PySem.W.kitOne K (.ref x_NotAlike) (.ref x_BadOrder) = some false)
    (ki_BadOrder_BadDeed : PySem.W.kitOne K (.ref x_BadDeed) (.ref x_BadOrder) = some false)
    (ki_BadOrder_BadLive : PySem.W.kitOne K (.ref x_BadLive) (.ref x_BadOrder) = some false)
    (ki_BadOrder_BadName : PySem.W.kitOne K (.ref x_BadName) (.ref x_BadOrder) = some false)
    (ki_BadOrder_BadText : PySem.W.kitOne K (.ref x_BadText) (.ref x_BadOrder) = some false)
    (ki_BadOrder_NoWatch : PySem.W.kitOne K (.ref x_NoWatch) (.ref x_BadOrder) = some false)
    (ki_BadOrder_NothingLeft : PySem.W.kitOne K (.ref x_NothingLeft) (.ref x_BadOrder) = some false)
    (kn_BadPowers : PySem.W.kitOne K (.type "NoneType") (.ref x_BadPowers) = some false)
    (ki_BadPowers_BoxError : PySem.W.kitOne K (.ref x_BoxError) (.ref x_BadPowers) = some false)
    (ki_BadPowers_BadPrime : PySem.W.kitOne K (.ref x_BadPrime) (.ref x_BadPowers) = some false)
    (ki_BadPowers_BadNumber : PySem.W.kitOne K (.ref x_BadNumber) (.ref x_BadPowers) = some false)
    (ki_BadPowers_BadShape : PySem.W.kitOne K (.ref x_BadShape) (.ref x_BadPowers) = some false)
    (ki_BadPowers_BadBox : PySem.W.kitOne K (.ref x_BadBox) (.ref x_BadPowers) = some false)
    (ki_BadPowers_BadFilling : PySem.W.kitOne K (.ref x_BadFilling) (.ref x_BadPowers) = some false)
    (ki_BadPowers_BadOrder : PySem.W.kitOne K (.ref x_BadOrder) (.ref x_BadPowers) = some false)
    (ki_BadPowers_BadSum : PySem.W.kitOne K (.ref x_BadSum) (.ref x_BadPowers) = some false)
    (ki_BadPowers_BadWord : PySem.W.kitOne K (.ref x_BadWord) (.ref x_BadPowers) = some false)
    (ki_BadPowers_TooMany : PySem.W.kitOne K (.ref x_TooMany) (.ref x_BadPowers) = some false)
    (ki_BadPowers_BadPowers : PySem.W.kitOne K (.ref x_BadPowers) (.ref x_BadPowers) = some true)
    (ki_BadPowers_BadCourse : PySem.W.kitOne K (.ref x_BadCourse) (.ref x_BadPowers) = some false)
    (ki_BadPowers_NotFree : PySem.W.kitOne K (.ref x_NotFree) (.ref x_BadPowers) = some false)
    (ki_BadPowers_NotTold : PySem.W.kitOne K (.ref x_NotTold) (.ref x_BadPowers) = some false)
    (ki_BadPowers_BadActing : PySem.W.kitOne K (.ref x_BadActing) (.ref x_BadPowers) = some false)
    (ki_BadPowers_BadRows : PySem.W.kitOne K (.ref x_BadRows) (.ref x_BadPowers) = some false)
    (ki_BadPowers_BadWay : PySem.W.kitOne K (.ref x_BadWay) (.ref x_BadPowers) = some false)
    (ki_BadPowers_BadLines : PySem.W.kitOne K (.ref x_BadLines) (.ref x_BadPowers) = some false)
    (ki_BadPowers_BadSpread : PySem.W.kitOne K (.ref x_BadSpread) (.ref x_BadPowers) = some false)
    (ki_BadPowers_BadCell : PySem.W.kitOne K (.ref x_BadCell) (.ref x_BadPowers) = some false)
    (ki_BadPowers_NotHere : PySem.W.kitOne K (.ref x_NotHere) (.ref x_BadPowers) = some false)
    (ki_BadPowers_NotAlike : PySem.W.kitOne K (.ref x_NotAlike) (.ref x_BadPowers) = some false)
    (ki_BadPowers_BadDeed : PySem.W.kitOne K (.ref x_BadDeed) (.ref x_BadPowers) = some false)
    (ki_BadPowers_BadLive : PySem.W.kitOne K (.ref x_BadLive) (.ref x_BadPowers) = some false)
    (ki_BadPowers_BadName : PySem.W.kitOne K (.ref x_BadName) (.ref x_BadPowers) = some false)
    (ki_BadPowers_BadText : PySem.W.kitOne K (.ref x_BadText) (.ref x_BadPowers) = some false)
    (ki_BadPowers_NoWatch : PySem.W.kitOne K (.ref x_NoWatch) (.ref x_BadPowers) = some false)
    (ki_BadPowers_NothingLeft : PySem.W.kitOne K (.ref x_NothingLeft) (.ref x_BadPowers) = some false)
    (kn_BadPrime : PySem.W.kitOne K (.type "NoneType") (.ref x_BadPrime) = some false)
    (ki_BadPrime_BoxError : PySem.W.kitOne K (.ref x_BoxError) (.ref x_BadPrime) = some false)
    (ki_BadPrime_BadPrime : PySem.W.kitOne K (.ref x_BadPrime) (.ref x_BadPrime) = some true)
    (ki_BadPrime_BadNumber : PySem.W.kitOne K (.ref x_BadNumber) (.ref x_BadPrime) = some false)
    (ki_BadPrime_BadShape : PySem.W.kitOne K (.ref x_BadShape) (.ref x_BadPrime) = some false)
    (ki_BadPrime_BadBox : PySem.W.kitOne K (.ref x_BadBox) (.ref x_BadPrime) = some false)
    (ki_BadPrime_BadFilling : PySem.W.kitOne K (.ref x_BadFilling) (.ref x_BadPrime) = some false)
    (ki_BadPrime_BadOrder : PySem.W.kitOne K (.ref x_BadOrder) (.ref x_BadPrime) = some false)
    (ki_BadPrime_BadSum : PySem.W.kitOne K (.ref x_BadSum) (.ref x_BadPrime) = some false)
    (ki_BadPrime_BadWord : PySem.W.kitOne K (.ref x_BadWord) (.ref x_BadPrime) = some false)
    (ki_BadPrime_TooMany : PySem.W.kitOne K (.ref x_TooMany) (.ref x_BadPrime) = some false)
    (ki_BadPrime_BadPowers : PySem.W.kitOne K (.ref x_BadPowers) (.ref x_BadPrime) = some false)
    (ki_BadPrime_BadCourse : PySem.W.kitOne K (.ref x_BadCourse) (.ref x_BadPrime) = some false)
    (ki_BadPrime_NotFree : PySem.W.kitOne K (.ref x_NotFree) (.ref x_BadPrime) = some false)
    (ki_BadPrime_NotTold : PySem.W.kitOne K (.ref x_NotTold) (.ref x_BadPrime) = some false)
    (ki_BadPrime_BadActing : PySem.W.kitOne K (.ref x_BadActing) (.ref x_BadPrime) = some false)
    (ki_BadPrime_BadRows : PySem.W.kitOne K (.ref x_BadRows) (.ref x_BadPrime) = some false)
    (ki_BadPrime_BadWay : PySem.W.kitOne K (.ref x_BadWay) (.ref x_BadPrime) = some false)
    (ki_BadPrime_BadLines : PySem.W.kitOne K (.ref x_BadLines) (.ref x_BadPrime) = some false)
    (ki_BadPrime_BadSpread : PySem.W.kitOne K (.ref x_BadSpread) (.ref x_BadPrime) = some false)
    (ki_BadPrime_BadCell : PySem.W.kitOne K (.ref x_BadCell) (.ref x_BadPrime) = some false)
    (ki_BadPrime_NotHere : PySem.W.kitOne K (.ref x_NotHere) (.ref x_BadPrime) = some false)
    (ki_BadPrime_NotAlike : PySem.W.kitOne K (.ref x_NotAlike) (.ref x_BadPrime) = some false)
    (ki_BadPrime_BadDeed : PySem.W.kitOne K (.ref x_BadDeed) (.ref x_BadPrime) = some false)
    (ki_BadPrime_BadLive : PySem.W.kitOne K (.ref x_BadLive) (.ref x_BadPrime) = some false)
    (ki_BadPrime_BadName : PySem.W.kitOne K (.ref x_BadName) (.ref x_BadPrime) = some false)
    (ki_BadPrime_BadText : PySem.W.kitOne K (.ref x_BadText) (.ref x_BadPrime) = some false)
    (ki_BadPrime_NoWatch : PySem.W.kitOne K (.ref x_NoWatch) (.ref x_BadPrime) = some false)
    (ki_BadPrime_NothingLeft : PySem.W.kitOne K (.ref x_NothingLeft) (.ref x_BadPrime) = some false)
    (kn_BadRows : PySem.W.kitOne K (.type "NoneType") (.ref x_BadRows) = some false)
    (ki_BadRows_BoxError : PySem.W.kitOne K (.ref x_BoxError) (.ref x_BadRows) = some false)
    (ki_BadRows_BadPrime : PySem.W.kitOne K (.ref x_BadPrime) (.ref x_BadRows) = some false)
    (ki_BadRows_BadNumber : PySem.W.kitOne K (.ref x_BadNumber) (.ref x_BadRows) = some false)
    (ki_BadRows_BadShape : PySem.W.kitOne K (.ref x_BadShape) (.ref x_BadRows) = some false)
    (ki_BadRows_BadBox : PySem.W.kitOne K (.ref x_BadBox) (.ref x_BadRows) = some false)
    (ki_BadRows_BadFilling : PySem.W.kitOne K (.ref x_BadFilling) (.ref x_BadRows) = some false)
    (ki_BadRows_BadOrder : PySem.W.kitOne K (.ref x_BadOrder) (.ref x_BadRows) = some false)
    (ki_BadRows_BadSum : PySem.W.kitOne K (.ref x_BadSum) (.ref x_BadRows) = some false)
    (ki_BadRows_BadWord : PySem.W.kitOne K (.ref x_BadWord) (.ref x_BadRows) = some false)
    (ki_BadRows_TooMany : PySem.W.kitOne K (.ref x_TooMany) (.ref x_BadRows) = some false)
    (ki_BadRows_BadPowers : PySem.W.kitOne K (.ref x_BadPowers) (.ref x_BadRows) = some false)
    (ki_BadRows_BadCourse : PySem.W.kitOne K (.ref x_BadCourse) (.ref x_BadRows) = some false)
    (ki_BadRows_NotFree : PySem.W.kitOne K (.ref x_NotFree) (.ref x_BadRows) = some false)
    (ki_BadRows_NotTold : PySem.W.kitOne K (.ref x_NotTold) (.ref x_BadRows) = some false)
    (ki_BadRows_BadActing : PySem.W.kitOne K (.ref x_BadActing) (.ref x_BadRows) = some false)
    (ki_BadRows_BadRows : PySem.W.kitOne K (.ref x_BadRows) (.ref x_BadRows) = some true)
    (ki_BadRows_BadWay : PySem.W.kitOne K (.ref x_BadWay) (.ref x_BadRows) = some false)
    (ki_BadRows_BadLines : PySem.W.kitOne K (.ref x_BadLines) (.ref x_BadRows) = some false)
    (ki_BadRows_BadSpread : PySem.W.kitOne K (.ref x_BadSpread) (.ref x_BadRows) = some false)
    (ki_BadRows_BadCell : PySem.W.kitOne K (.ref x_BadCell) (.ref x_BadRows) = some false)
    (ki_BadRows_NotHere : PySem.W.kitOne K (.ref x_NotHere) (.ref x_BadRows) = some false)
    (ki_BadRows_NotAlike : PySem.W.kitOne K (.ref x_NotAlike) (.ref x_BadRows) = some false)
    (ki_BadRows_BadDeed : PySem.W.kitOne K (.ref x_BadDeed) (.ref x_BadRows) = some false)
    (ki_BadRows_BadLive : PySem.W.kitOne K (.ref x_BadLive) (.ref x_BadRows) = some false)
    (ki_BadRows_BadName : PySem.W.kitOne K (.ref x_BadName) (.ref x_BadRows) = some false)
    (ki_BadRows_BadText : PySem.W.kitOne K (.ref x_BadText) (.ref x_BadRows) = some false)
    (ki_BadRows_NoWatch : PySem.W.kitOne K (.ref x_NoWatch) (.ref x_BadRows) = some false)
    (ki_BadRows_NothingLeft : PySem.W.kitOne K (.ref x_NothingLeft) (.ref x_BadRows) = some false)
    (kn_BadShape : PySem.W.kitOne K (.type "NoneType") (.ref x_BadShape) = some false)
    (ki_BadShape_BoxError : PySem.W.kitOne K (.ref x_BoxError) (.ref x_BadShape) = some false)
    (ki_BadShape_BadPrime : PySem.W.kitOne K (.ref x_BadPrime) (.ref x_BadShape) = some false)
    (ki_BadShape_BadNumber : PySem.W.kitOne K (.ref x_BadNumber) (.ref x_BadShape) = some false)
    (ki_BadShape_BadShape : PySem.W.kitOne K (.ref x_BadShape) (.ref x_BadShape) = some true)
    (ki_BadShape_BadBox : PySem.W.kitOne K (.ref x_BadBox) (.ref x_BadShape) = some false)
    (ki_BadShape_BadFilling : PySem.W.kitOne K (.ref x_BadFilling) (.ref x_BadShape) = some false)
    (ki_BadShape_BadOrder : PySem.W.kitOne K (.ref x_BadOrder) (.ref x_BadShape) = some false)
    (ki_BadShape_BadSum : PySem.W.kitOne K (.ref x_BadSum) (.ref x_BadShape) = some false)
    (ki_BadShape_BadWord : PySem.W.kitOne K (.ref x_BadWord) (.ref x_BadShape) = some false)
    (ki_BadShape_TooMany : PySem.W.kitOne K (.ref x_TooMany) (.ref x_BadShape) = some false)
    (ki_BadShape_BadPowers : PySem.W.kitOne K (.ref x_BadPowers) (.ref x_BadShape) = some false)
    (ki_BadShape_BadCourse : PySem.W.kitOne K (.ref x_BadCourse) (.ref x_BadShape) = some false)
    (ki_BadShape_NotFree : PySem.W.kitOne K (.ref x_NotFree) (.ref x_BadShape) = some false)
    (ki_BadShape_NotTold : PySem.W.kitOne K (.ref x_NotTold) (.ref x_BadShape) = some false)
    (ki_BadShape_BadActing : PySem.W.kitOne K (.ref x_BadActing) (.ref x_BadShape) = some false)
    (ki_BadShape_BadRows : PySem.W.kitOne K (.ref x_BadRows) (.ref x_BadShape) = some false)
    (ki_BadShape_BadWay : PySem.W.kitOne K (.ref x_BadWay) (.ref x_BadShape) = some false)
    (ki_BadShape_BadLines : PySem.W.kitOne K (.ref x_BadLines) (.ref x_BadShape) = some false)
    (ki_BadShape_BadSpread : PySem.W.kitOne K (.ref x_BadSpread) (.ref x_BadShape) = some false)
    (ki_BadShape_BadCell : PySem.W.kitOne K (.ref x_BadCell) (.ref x_BadShape) = some false)
    (ki_BadShape_NotHere : PySem.W.kitOne K (.ref x_NotHere) (.ref x_BadShape) = some false)
    (ki_BadShape_NotAlike : PySem.W.kitOne K (.ref x_NotAlike) (.ref x_BadShape) = some false)
    (ki_BadShape_BadDeed : PySem.W.kitOne K (.ref x_BadDeed) (.ref x_BadShape) = some false)
    (ki_BadShape_BadLive : PySem.W.kitOne K (.ref x_BadLive) (.ref x_BadShape) = some false)
    (ki_BadShape_BadName : PySem.W.kitOne K (.ref x_BadName) (.ref x_BadShape) = some false)
    (ki_BadShape_BadText : PySem.W.kitOne K (.ref x_BadText) (.ref x_BadShape) = some false)
    (ki_BadShape_NoWatch : PySem.W.kitOne K (.ref x_NoWatch) (.ref x_BadShape) = some false)
    (ki_BadShape_NothingLeft : PySem.W.kitOne K (.ref x_NothingLeft) (.ref x_BadShape) = some false)
    (kn_BadSpread : PySem.W.kitOne K (.type "NoneType") (.ref x_BadSpread) = some false)
    (ki_BadSpread_BoxError : PySem.W.kitOne K (.ref x_BoxError) (.ref x_BadSpread) = some false)
    (ki_BadSpread_BadPrime : PySem.W.kitOne K (.ref x_BadPrime) (.ref x_BadSpread) = some false)
    (ki_BadSpread_BadNumber : PySem.W.kitOne K (.ref x_BadNumber) (.ref x_BadSpread) = some false)
    (ki_BadSpread_BadShape : PySem.W.kitOne K (.ref x_BadShape) (.ref x_BadSpread) = some false)
    (ki_BadSpread_BadBox : PySem.W.kitOne K (.ref x_BadBox) (.ref x_BadSpread) = some false)
    (ki_BadSpread_BadFilling : PySem.W.kitOne K (.ref x_BadFilling) (.ref x_BadSpread) = some false)
    (ki_BadSpread_BadOrder : PySem.W.kitOne K (.ref x_BadOrder) (.ref x_BadSpread) = some false)
    (ki_BadSpread_BadSum : PySem.W.kitOne K (.ref x_BadSum) (.ref x_BadSpread) = some false)
    (ki_BadSpread_BadWord : PySem.W.kitOne K (.ref x_BadWord) (.ref x_BadSpread) = some false)
    (ki_BadSpread_TooMany : PySem.W.kitOne K (.ref x_TooMany) (.ref x_BadSpread) = some false)
    (ki_BadSpread_BadPowers : PySem.W.kitOne K (.ref x_BadPowers) (.ref x_BadSpread) = some false)
    (ki_BadSpread_BadCourse : PySem.W.kitOne K (.ref x_BadCourse) (.ref x_BadSpread) = some false)
    (ki_BadSpread_NotFree : PySem.W.kitOne K (.ref x_NotFree) (.ref x_BadSpread) = some false)
    (ki_BadSpread_NotTold : PySem.W.kitOne K (.ref x_NotTold) (.ref x_BadSpread) = some false)
    (ki_BadSpread_BadActing : PySem.W.kitOne K (.ref x_BadActing) (.ref x_BadSpread) = some false)
    (ki_BadSpread_BadRows : PySem.W.kitOne K (.ref x_BadRows) (.ref x_BadSpread) = some false)
    (ki_BadSpread_BadWay : PySem.W.kitOne K (.ref x_BadWay) (.ref x_BadSpread) = some false)
    (ki_BadSpread_BadLines : PySem.W.kitOne K (.ref x_BadLines) (.ref x_BadSpread) = some false)
    (ki_BadSpread_BadSpread : PySem.W.kitOne K (.ref x_BadSpread) (.ref x_BadSpread) = some true)
    (ki_BadSpread_BadCell : PySem.W.kitOne K (.ref x_BadCell) (.ref x_BadSpread) = some false)
    (ki_BadSpread_NotHere : PySem.W.kitOne K (.ref x_NotHere) (.ref x_BadSpread) = some false)
    (ki_BadSpread_NotAlike : PySem.W.kitOne K (.ref x_NotAlike) (.ref x_BadSpread) = some false)
    (ki_BadSpread_BadDeed : PySem.W.kitOne K (.ref x_BadDeed) (.ref x_BadSpread) = some false)
    (ki_BadSpread_BadLive : PySem.W.kitOne K (.ref x_BadLive) (.ref x_BadSpread) = some false)
    (ki_BadSpread_BadName : PySem.W.kitOne K (.ref x_BadName) (.ref x_BadSpread) = some false)
    (ki_BadSpread_BadText : PySem.W.kitOne K (.ref x_BadText) (.ref x_BadSpread) = some false)
    (ki_BadSpread_NoWatch : PySem.W.kitOne K (.ref x_NoWatch) (.ref x_BadSpread) = some false)
    (ki_BadSpread_NothingLeft : PySem.W.kitOne K (.ref x_NothingLeft) (.ref x_BadSpread) = some false)
    (kn_BadSum : PySem.W.kitOne K (.type "NoneType") (.ref x_BadSum) = some false)
    (ki_BadSum_BoxError : PySem.W.kitOne K (.ref x_BoxError) (.ref x_BadSum) = some false)
    (ki_BadSum_BadPrime : PySem.W.kitOne K (.ref x_BadPrime) (.ref x_BadSum) = some false)
    (ki_BadSum_BadNumber : PySem.W.kitOne K (.ref x_BadNumber) (.ref x_BadSum) = some false)
    (ki_BadSum_BadShape : PySem.W.kitOne K (.ref x_BadShape) (.ref x_BadSum) = some false)
    (ki_BadSum_BadBox : PySem.W.kitOne K (.ref x_BadBox) (.ref x_BadSum) = some false)
    (ki_BadSum_BadFilling : PySem.W.kitOne K (.ref x_BadFilling) (.ref x_BadSum) = some false)
    (ki_BadSum_BadOrder : PySem.W.kitOne K (.ref x_BadOrder) (.ref x_BadSum) = some false)
    (ki_BadSum_BadSum : PySem.W.kitOne K (.ref x_BadSum) (.ref x_BadSum) = some true)
    (ki_BadSum_BadWord : PySem.W.kitOne K (.ref x_BadWord) (.ref x_BadSum) = some false)
    (ki_BadSum_TooMany : PySem.W.kitOne K (.ref x_TooMany) (.ref x_BadSum) = some false)
    (ki_BadSum_BadPowers : PySem.W.kitOne K (.ref x_BadPowers) (.ref x_BadSum) = some false)
    (ki_BadSum_BadCourse : PySem.W.kitOne K (.ref x_BadCourse) (.ref x_BadSum) = some false)
    (ki_BadSum_NotFree : PySem.W.kitOne K (.ref x_NotFree) (.ref x_BadSum) = some false)
    (ki_BadSum_NotTold : PySem.W.kitOne K (.ref x_NotTold) (.ref x_BadSum) = some false)
    (ki_BadSum_BadActing : PySem.W.kitOne K (.ref x_BadActing) (.ref x_BadSum) = some false)
    (ki_BadSum_BadRows : PySem.W.kitOne K (.ref x_BadRows) (.ref x_BadSum) = some false)
    (ki_BadSum_BadWay : PySem.W.kitOne K (.ref x_BadWay) (.ref x_BadSum) = some false)
    (ki_BadSum_BadLines : PySem.W.kitOne K (.ref x_BadLines) (.ref x_BadSum) = some false)
    (ki_BadSum_BadSpread : PySem.W.kitOne K (.ref x_BadSpread) (.ref x_BadSum) = some false)
    (ki_BadSum_BadCell : PySem.W.kitOne K (.ref x_BadCell) (.ref x_BadSum) = some false)
    (ki_BadSum_NotHere : PySem.W.kitOne K (.ref x_NotHere) (.ref x_BadSum) = some false)
    (ki_BadSum_NotAlike : PySem.W.kitOne K (.ref x_NotAlike) (.ref x_BadSum) = some false)
    (ki_BadSum_BadDeed : PySem.W.kitOne K (.ref x_BadDeed) (.ref x_BadSum) = some false)
    (ki_BadSum_BadLive : PySem.W.kitOne K (.ref x_BadLive) (.ref x_BadSum) = some false)
    (ki_BadSum_BadName : PySem.W.kitOne K (.ref x_BadName) (.ref x_BadSum) = some false)
    (ki_BadSum_BadText : PySem.W.kitOne K (.ref x_BadText) (.ref x_BadSum) = some false)
    (ki_BadSum_NoWatch : PySem.W.kitOne K (.ref x_NoWatch) (.ref x_BadSum) = some false)
    (ki_BadSum_NothingLeft : PySem.W.kitOne K (.ref x_NothingLeft) (.ref x_BadSum) = some false)
    (kn_BadText : PySem.W.kitOne K (.type "NoneType") (.ref x_BadText) = some false)
    (ki_BadText_BoxError : PySem.W.kitOne K (.ref x_BoxError) (.ref x_BadText) = some false)
    (ki_BadText_BadPrime : PySem.W.kitOne K (.ref x_BadPrime) (.ref x_BadText) = some false)
    (ki_BadText_BadNumber : PySem.W.kitOne K (.ref x_BadNumber) (.ref x_BadText) = some false)
    (ki_BadText_BadShape : PySem.W.kitOne K (.ref x_BadShape) (.ref x_BadText) = some false)
    (ki_BadText_BadBox : PySem.W.kitOne K (.ref x_BadBox) (.ref x_BadText) = some false)
    (ki_BadText_BadFilling : PySem.W.kitOne K (.ref x_BadFilling) (.ref x_BadText) = some false)
    (ki_BadText_BadOrder : PySem.W.kitOne K (.ref x_BadOrder) (.ref x_BadText) = some false)
    (ki_BadText_BadSum : PySem.W.kitOne K (.ref x_BadSum) (.ref x_BadText) = some false)
    (ki_BadText_BadWord : PySem.W.kitOne K (.ref x_BadWord) (.ref x_BadText) = some false)
    (ki_BadText_TooMany : PySem.W.kitOne K (.ref x_TooMany) (.ref x_BadText) = some false)
    (ki_BadText_BadPowers : PySem.W.kitOne K (.ref x_BadPowers) (.ref x_BadText) = some false)
    (ki_BadText_BadCourse : PySem.W.kitOne K (.ref x_BadCourse) (.ref x_BadText) = some false)
    (ki_BadText_NotFree : PySem.W.kitOne K (.ref x_NotFree) (.ref x_BadText) = some false)
    (ki_BadText_NotTold : PySem.W.kitOne K (.ref x_NotTold) (.ref x_BadText) = some false)
    (ki_BadText_BadActing : PySem.W.kitOne K (.ref x_BadActing) (.ref x_BadText) = some false)
    (ki_BadText_BadRows : PySem.W.kitOne K (.ref x_BadRows) (.ref x_BadText) = some false)
    (ki_BadText_BadWay : PySem.W.kitOne K (.ref x_BadWay) (.ref x_BadText) = some false)
    (ki_BadText_BadLines : PySem.W.kitOne K (.ref x_BadLines) (.ref x_BadText) = some false)
    (ki_BadText_BadSpread : PySem.W.kitOne K (.ref x_BadSpread) (.ref x_BadText) = some false)
    (ki_BadText_BadCell : PySem.W.kitOne K (.ref x_BadCell) (.ref x_BadText) = some false)
    (ki_BadText_NotHere : PySem.W.kitOne K (.ref x_NotHere) (.ref x_BadText) = some false)
    (ki_BadText_NotAlike : PySem.W.kitOne K (.ref x_NotAlike) (.ref x_BadText) = some false)
    (ki_BadText_BadDeed : PySem.W.kitOne K (.ref x_BadDeed) (.ref x_BadText) = some false)
    (ki_BadText_BadLive : PySem.W.kitOne K (.ref x_BadLive) (.ref x_BadText) = some false)
    (ki_BadText_BadName : PySem.W.kitOne K (.ref x_BadName) (.ref x_BadText) = some false)
    (ki_BadText_BadText : PySem.W.kitOne K (.ref x_BadText) (.ref x_BadText) = some true)
    (ki_BadText_NoWatch : PySem.W.kitOne K (.ref x_NoWatch) (.ref x_BadText) = some false)
    (ki_BadText_NothingLeft : PySem.W.kitOne K (.ref x_NothingLeft) (.ref x_BadText) = some false)
    (kn_BadWay : PySem.W.kitOne K (.type "NoneType") (.ref x_BadWay) = some false)
    (ki_BadWay_BoxError : PySem.W.kitOne K (.ref x_BoxError) (.ref x_BadWay) = some false)
    (ki_BadWay_BadPrime : PySem.W.kitOne K (.ref x_BadPrime) (.ref x_BadWay) = some false)
    (ki_BadWay_BadNumber : PySem.W.kitOne K (.ref x_BadNumber) (.ref x_BadWay) = some false)
    (ki_BadWay_BadShape : PySem.W.kitOne K (.ref x_BadShape) (.ref x_BadWay) = some false)
    (ki_BadWay_BadBox : PySem.W.kitOne K (.ref x_BadBox) (.ref x_BadWay) = some false)
    (ki_BadWay_BadFilling : PySem.W.kitOne K (.ref x_BadFilling) (.ref x_BadWay) = some false)
    (ki_BadWay_BadOrder : PySem.W.kitOne K (.ref x_BadOrder) (.ref x_BadWay) = some false)
    (ki_BadWay_BadSum : PySem.W.kitOne K (.ref x_BadSum) (.ref x_BadWay) = some false)
    (ki_BadWay_BadWord : PySem.W.kitOne K (.ref x_BadWord) (.ref x_BadWay) = some false)
    (ki_BadWay_TooMany : PySem.W.kitOne K (.ref x_TooMany) (.ref x_BadWay) = some false)
    (ki_BadWay_BadPowers : PySem.W.kitOne K (.ref x_BadPowers) (.ref x_BadWay) = some false)
    (ki_BadWay_BadCourse : PySem.W.kitOne K (.ref x_BadCourse) (.ref x_BadWay) = some false)
    (ki_BadWay_NotFree : PySem.W.kitOne K (.ref x_NotFree) (.ref x_BadWay) = some false)
    (ki_BadWay_NotTold : PySem.W.kitOne K (.ref x_NotTold) (.ref x_BadWay) = some false)
    (ki_BadWay_BadActing : PySem.W.kitOne K (.ref x_BadActing) (.ref x_BadWay) = some false)
    (ki_BadWay_BadRows : PySem.W.kitOne K (.ref x_BadRows) (.ref x_BadWay) = some false)
    (ki_BadWay_BadWay : PySem.W.kitOne K (.ref x_BadWay) (.ref x_BadWay) = some true)
    (ki_BadWay_BadLines : PySem.W.kitOne K (.ref x_BadLines) (.ref x_BadWay) = some false)
    (ki_BadWay_BadSpread : PySem.W.kitOne K (.ref x_BadSpread) (.ref x_BadWay) = some false)
    (ki_BadWay_BadCell : PySem.W.kitOne K (.ref x_BadCell) (.ref x_BadWay) = some false)
    (ki_BadWay_NotHere : PySem.W.kitOne K (.ref x_NotHere) (.ref x_BadWay) = some false)
    (ki_BadWay_NotAlike : PySem.W.kitOne K (.ref x_NotAlike) (.ref x_BadWay) = some false)
    (ki_BadWay_BadDeed : PySem.W.kitOne K (.ref x_BadDeed) (.ref x_BadWay) = some false)
    (ki_BadWay_BadLive : PySem.W.kitOne K (.ref x_BadLive) (.ref x_BadWay) = some false)
    (ki_BadWay_BadName : PySem.W.kitOne K (.ref x_BadName) (.ref x_BadWay) = some false)
    (ki_BadWay_BadText : PySem.W.kitOne K (.ref x_BadText) (.ref x_BadWay) = some false)
    (ki_BadWay_NoWatch : PySem.W.kitOne K (.ref x_NoWatch) (.ref x_BadWay) = some false)
    (ki_BadWay_NothingLeft : PySem.W.kitOne K (.ref x_NothingLeft) (.ref x_BadWay) = some false)
    (kn_BadWord : PySem.W.kitOne K (.type "NoneType") (.ref x_BadWord) = some false)
    (ki_BadWord_BoxError : PySem.W.kitOne K (.ref x_BoxError) (.ref x_BadWord) = some false)
    (ki_BadWord_BadPrime : PySem.W.kitOne K (.ref x_BadPrime) (.ref x_BadWord) = some false)
    (ki_BadWord_BadNumber : PySem.W.kitOne K (.ref x_BadNumber) (.ref x_BadWord) = some false)
    (ki_BadWord_BadShape : PySem.W.kitOne K (.ref x_BadShape) (.ref x_BadWord) = some false)
    (ki_BadWord_BadBox : PySem.W.kitOne K (.ref x_BadBox) (.ref x_BadWord) = some false)
    (ki_BadWord_BadFilling : PySem.W.kitOne K (.ref x_BadFilling) (.ref x_BadWord) = some false)
    (ki_BadWord_BadOrder : PySem.W.kitOne K (.ref x_BadOrder) (.ref x_BadWord) = some false)
    (ki_BadWord_BadSum : PySem.W.kitOne K (.ref x_BadSum) (.ref x_BadWord) = some false)
    (ki_BadWord_BadWord : PySem.W.kitOne K (.ref x_BadWord) (.ref x_BadWord) = some true)
    (ki_BadWord_TooMany : PySem.W.kitOne K (.ref x_TooMany) (.ref x_BadWord) = some false)
    (ki_BadWord_BadPowers : PySem.W.kitOne K (.ref x_BadPowers) (.ref x_BadWord) = some false)
    (ki_BadWord_BadCourse : PySem.W.kitOne K (.ref x_BadCourse) (.ref x_BadWord) = some false)
    (ki_BadWord_NotFree : PySem.W.kitOne K (.ref x_NotFree) (.ref x_BadWord) = some false)
    (ki_BadWord_NotTold : PySem.W.kitOne K (.ref x_NotTold) (.ref x_BadWord) = some false)
    (ki_BadWord_BadActing : PySem.W.kitOne K (.ref x_BadActing) (.ref x_BadWord) = some false)
    (ki_BadWord_BadRows : PySem.W.kitOne K (.ref x_BadRows) (.ref x_BadWord) = some false)
    (ki_BadWord_BadWay : PySem.W.kitOne K (.ref x_BadWay) (.ref x_BadWord) = some false)
    (ki_BadWord_BadLines : PySem.W.kitOne K (.ref x_BadLines) (.ref x_BadWord) = some false)
    (ki_BadWord_BadSpread : PySem.W.kitOne K (.ref x_BadSpread) (.ref x_BadWord) = some false)
    (ki_BadWord_BadCell : PySem.W.kitOne K (.ref x_BadCell) (.ref x_BadWord) = some false)
    (ki_BadWord_NotHere : PySem.W.kitOne K (.ref x_NotHere) (.ref x_BadWord) = some false)
    (ki_BadWord_NotAlike : PySem.W.kitOne K (.ref x_NotAlike) (.ref x_BadWord) = some false)
    (ki_BadWord_BadDeed : PySem.W.kitOne K (.ref x_BadDeed) (.ref x_BadWord) = some false)
    (ki_BadWord_BadLive : PySem.W.kitOne K (.ref x_BadLive) (.ref x_BadWord) = some false)
    (ki_BadWord_BadName : PySem.W.kitOne K (.ref x_BadName) (.ref x_BadWord) = some false)
    (ki_BadWord_BadText : PySem.W.kitOne K (.ref x_BadText) (.ref x_BadWord) = some false)
    (ki_BadWord_NoWatch : PySem.W.kitOne K (.ref x_NoWatch) (.ref x_BadWord) = some false)
    (ki_BadWord_NothingLeft : PySem.W.kitOne K (.ref x_NothingLeft) (.ref x_BadWord) = some false)
    (kn_BoxError : PySem.W.kitOne K (.type "NoneType") (.ref x_BoxError) = some false)
    (ki_BoxError_BoxError : PySem.W.kitOne K (.ref x_BoxError) (.ref x_BoxError) = some true)
    (ki_BoxError_BadPrime : PySem.W.kitOne K (.ref x_BadPrime) (.ref x_BoxError) = some true)
    (ki_BoxError_BadNumber : PySem.W.kitOne K (.ref x_BadNumber) (.ref x_BoxError) = some true)
    (ki_BoxError_BadShape : PySem.W.kitOne K (.ref x_BadShape) (.ref x_BoxError) = some true)
    (ki_BoxError_BadBox : PySem.W.kitOne K (.ref x_BadBox) (.ref x_BoxError) = some true)
    (ki_BoxError_BadFilling : PySem.W.kitOne K (.ref x_BadFilling) (.ref x_BoxError) = some true)
    (ki_BoxError_BadOrder : PySem.W.kitOne K (.ref x_BadOrder) (.ref x_BoxError) = some true)
    (ki_BoxError_BadSum : PySem.W.kitOne K (.ref x_BadSum) (.ref x_BoxError) = some true)
    (ki_BoxError_BadWord : PySem.W.kitOne K (.ref x_BadWord) (.ref x_BoxError) = some true)
    (ki_BoxError_TooMany : PySem.W.kitOne K (.ref x_TooMany) (.ref x_BoxError) = some true)
    (ki_BoxError_BadPowers : PySem.W.kitOne K (.ref x_BadPowers) (.ref x_BoxError) = some true)
    (ki_BoxError_BadCourse : PySem.W.kitOne K (.ref x_BadCourse) (.ref x_BoxError) = some true)
    (ki_BoxError_NotFree : PySem.W.kitOne K (.ref x_NotFree) (.ref x_BoxError) = some true)
    (ki_BoxError_NotTold : PySem.W.kitOne K (.ref x_NotTold) (.ref x_BoxError) = some true)
    (ki_BoxError_BadActing : PySem.W.kitOne K (.ref x_BadActing) (.ref x_BoxError) = some true)
    (ki_BoxError_BadRows : PySem.W.kitOne K (.ref x_BadRows) (.ref x_BoxError) = some true)
    (ki_BoxError_BadWay : PySem.W.kitOne K (.ref x_BadWay) (.ref x_BoxError) = some true)
    (ki_BoxError_BadLines : PySem.W.kitOne K (.ref x_BadLines) (.ref x_BoxError) = some true)
    (ki_BoxError_BadSpread : PySem.W.kitOne K (.ref x_BadSpread) (.ref x_BoxError) = some true)
    (ki_BoxError_BadCell : PySem.W.kitOne K (.ref x_BadCell) (.ref x_BoxError) = some true)
    (ki_BoxError_NotHere : PySem.W.kitOne K (.ref x_NotHere) (.ref x_BoxError) = some true)
    (ki_BoxError_NotAlike : PySem.W.kitOne K (.ref x_NotAlike) (.ref x_BoxError) = some true)
    (ki_BoxError_BadDeed : PySem.W.kitOne K (.ref x_BadDeed) (.ref x_BoxError) = some true)
    (ki_BoxError_BadLive : PySem.W.kitOne K (.ref x_BadLive) (.ref x_BoxError) = some true)
    (ki_BoxError_BadName : PySem.W.kitOne K (.ref x_BadName) (.ref x_BoxError) = some true)
    (ki_BoxError_BadText : PySem.W.kitOne K (.ref x_BadText) (.ref x_BoxError) = some true)
    (ki_BoxError_NoWatch : PySem.W.kitOne K (.ref x_NoWatch) (.ref x_BoxError) = some true)
    (ki_BoxError_NothingLeft : PySem.W.kitOne K (.ref x_NothingLeft) (.ref x_BoxError) = some true)
    (kn_NoWatch : PySem.W.kitOne K (.type "NoneType") (.ref x_NoWatch) = some false)
    (ki_NoWatch_BoxError : PySem.W.kitOne K (.ref x_BoxError) (.ref x_NoWatch) = some false)
    (ki_NoWatch_BadPrime : PySem.W.kitOne K (.ref x_BadPrime) (.ref x_NoWatch) = some false)
    (ki_NoWatch_BadNumber : PySem.W.kitOne K (.ref x_BadNumber) (.ref x_NoWatch) = some false)
    (ki_NoWatch_BadShape : PySem.W.kitOne K (.ref x_BadShape) (.ref x_NoWatch) = some false)
    (ki_NoWatch_BadBox : PySem.W.kitOne K (.ref x_BadBox) (.ref x_NoWatch) = some false)
    (ki_NoWatch_BadFilling : PySem.W.kitOne K (.ref x_BadFilling) (.ref x_NoWatch) = some false)
    (ki_NoWatch_BadOrder : PySem.W.kitOne K (.ref x_BadOrder) (.ref x_NoWatch) = some false)
    (ki_NoWatch_BadSum : PySem.W.kitOne K (.ref x_BadSum) (.ref x_NoWatch) = some false)
    (ki_NoWatch_BadWord : PySem.W.kitOne K (.ref x_BadWord) (.ref x_NoWatch) = some false)
    (ki_NoWatch_TooMany : PySem.W.kitOne K (.ref x_TooMany) (.ref x_NoWatch) = some false)
    (ki_NoWatch_BadPowers : PySem.W.kitOne K (.ref x_BadPowers) (.ref x_NoWatch) = some false)
    (ki_NoWatch_BadCourse : PySem.W.kitOne K (.ref x_BadCourse) (.ref x_NoWatch) = some false)
    (ki_NoWatch_NotFree : PySem.W.kitOne K (.ref x_NotFree) (.ref x_NoWatch) = some false)
    (ki_NoWatch_NotTold : PySem.W.kitOne K (.ref x_NotTold) (.ref x_NoWatch) = some false)
    (ki_NoWatch_BadActing : PySem.W.kitOne K (.ref x_BadActing) (.ref x_NoWatch) = some false)
    (ki_NoWatch_BadRows : PySem.W.kitOne K (.ref x_BadRows) (.ref x_NoWatch) = some false)
    (ki_NoWatch_BadWay : PySem.W.kitOne K (.ref x_BadWay) (.ref x_NoWatch) = some false)
    (ki_NoWatch_BadLines : PySem.W.kitOne K (.ref x_BadLines) (.ref x_NoWatch) = some false)
    (ki_NoWatch_BadSpread : PySem.W.kitOne K (.ref x_BadSpread) (.ref x_NoWatch) = some false)
    (ki_NoWatch_BadCell : PySem.W.kitOne K (.ref x_BadCell) (.ref x_NoWatch) = some false)
    (ki_NoWatch_NotHere : PySem.W.kitOne K (.ref x_NotHere) (.ref x_NoWatch) = some false)
    (ki_NoWatch_NotAlike : PySem.W.kitOne K (.ref x_NotAlike) (.ref x_NoWatch) = some false)
    (ki_NoWatch_BadDeed : PySem.W.kitOne K (.ref x_BadDeed) (.ref x_NoWatch) = some false)
    (ki_NoWatch_BadLive : PySem.W.kitOne K (.ref x_BadLive) (.ref x_NoWatch) = some false)
    (ki_NoWatch_BadName : PySem.W.kitOne K (.ref x_BadName) (.ref x_NoWatch) = some false)
    (ki_NoWatch_BadText : PySem.W.kitOne K (.ref x_BadText) (.ref x_NoWatch) = some false)
    (ki_NoWatch_NoWatch : PySem.W.kitOne K (.ref x_NoWatch) (.ref x_NoWatch) = some true)
    (ki_NoWatch_NothingLeft : PySem.W.kitOne K (.ref x_NothingLeft) (.ref x_NoWatch) = some false)
    (kn_NotAlike : PySem.W.kitOne K (.type "NoneType") (.ref x_NotAlike) = some false)
    (ki_NotAlike_BoxError : PySem.W.kitOne K (.ref x_BoxError) (.ref x_NotAlike) = some false)
    (ki_NotAlike_BadPrime : PySem.W.kitOne K (.ref x_BadPrime) (.ref x_NotAlike) = some false)
    (ki_NotAlike_BadNumber : PySem.W.kitOne K (.ref x_BadNumber) (.ref x_NotAlike) = some false)
    (ki_NotAlike_BadShape : PySem.W.kitOne K (.ref x_BadShape) (.ref x_NotAlike) = some false)
    (ki_NotAlike_BadBox : PySem.W.kitOne K (.ref x_BadBox) (.ref x_NotAlike) = some false)
    (ki_NotAlike_BadFilling : PySem.W.kitOne K (.ref x_BadFilling) (.ref x_NotAlike) = some false)
    (ki_NotAlike_BadOrder : PySem.W.kitOne K (.ref x_BadOrder) (.ref x_NotAlike) = some false)
    (ki_NotAlike_BadSum : PySem.W.kitOne K (.ref x_BadSum) (.ref x_NotAlike) = some false)
    (ki_NotAlike_BadWord : PySem.W.kitOne K (.ref x_BadWord) (.ref x_NotAlike) = some false)
    (ki_NotAlike_TooMany : PySem.W.kitOne K (.ref x_TooMany) (.ref x_NotAlike) = some false)
    (ki_NotAlike_BadPowers : PySem.W.kitOne K (.ref x_BadPowers) (.ref x_NotAlike) = some false)
    (ki_NotAlike_BadCourse : PySem.W.kitOne K (.ref x_BadCourse) (.ref x_NotAlike) = some false)
    (ki_NotAlike_NotFree : PySem.W.kitOne K (.ref x_NotFree) (.ref x_NotAlike) = some false)
    (ki_NotAlike_NotTold : PySem.W.kitOne K (.ref x_NotTold) (.ref x_NotAlike) = some false)
    (ki_NotAlike_BadActing : PySem.W.kitOne K (.ref x_BadActing) (.ref x_NotAlike) = some false)
    (ki_NotAlike_BadRows : PySem.W.kitOne K (.ref x_BadRows) (.ref x_NotAlike) = some false)
    (ki_NotAlike_BadWay : PySem.W.kitOne K (.ref x_BadWay) (.ref x_NotAlike) = some false)
    (ki_NotAlike_BadLines : PySem.W.kitOne K (.ref x_BadLines) (.ref x_NotAlike) = some false)
    (ki_NotAlike_BadSpread : PySem.W.kitOne K (.ref x_BadSpread) (.ref x_NotAlike) = some false)
    (ki_NotAlike_BadCell : PySem.W.kitOne K (.ref x_BadCell) (.ref x_NotAlike) = some false)
    (ki_NotAlike_NotHere : PySem.W.kitOne K (.ref x_NotHere) (.ref x_NotAlike) = some false)
    (ki_NotAlike_NotAlike : PySem.W.kitOne K (.ref x_NotAlike) (.ref x_NotAlike) = some true)
    (ki_NotAlike_BadDeed : PySem.W.kitOne K (.ref x_BadDeed) (.ref x_NotAlike) = some false)
    (ki_NotAlike_BadLive : PySem.W.kitOne K (.ref x_BadLive) (.ref x_NotAlike) = some false)
    (ki_NotAlike_BadName : PySem.W.kitOne K (.ref x_BadName) (.ref x_NotAlike) = some false)
    (ki_NotAlike_BadText : PySem.W.kitOne K (.ref x_BadText) (.ref x_NotAlike) = some false)
    (ki_NotAlike_NoWatch : PySem.W.kitOne K (.ref x_NoWatch) (.ref x_NotAlike) = some false)
    (ki_NotAlike_NothingLeft : PySem.W.kitOne K (.ref x_NothingLeft) (.ref x_NotAlike) = some false)
    (kn_NotFree : PySem.W.kitOne K (.type "NoneType") (.ref x_NotFree) = some false)
    (ki_NotFree_BoxError : PySem.W.kitOne K (.ref x_BoxError) (.ref x_NotFree) = some false)
    (ki_NotFree_BadPrime : PySem.W.kitOne K (.ref x_BadPrime) (.ref x_NotFree) = some false)
    (ki_NotFree_BadNumber : PySem.W.kitOne K (.ref x_BadNumber) (.ref x_NotFree) = some false)
    (ki_NotFree_BadShape : PySem.W.kitOne K (.ref x_BadShape) (.ref x_NotFree) = some false)
    (ki_NotFree_BadBox : PySem.W.kitOne K (.ref x_BadBox) (.ref x_NotFree) = some false)
    (ki_NotFree_BadFilling : PySem.W.kitOne K (.ref x_BadFilling) (.ref x_NotFree) = some false)
    (ki_NotFree_BadOrder : PySem.W.kitOne K (.ref x_BadOrder) (.ref x_NotFree) = some false)
    (ki_NotFree_BadSum : PySem.W.kitOne K (.ref x_BadSum) (.ref x_NotFree) = some false)
    (ki_NotFree_BadWord : PySem.W.kitOne K (.ref x_BadWord) (.ref x_NotFree) = some false)
    (ki_NotFree_TooMany : PySem.W.kitOne K (.ref x_TooMany) (.ref x_NotFree) = some false)
    (ki_NotFree_BadPowers : PySem.W.kitOne K (.ref x_BadPowers) (.ref x_NotFree) = some false)
    (ki_NotFree_BadCourse : PySem.W.kitOne K (.ref x_BadCourse) (.ref x_NotFree) = some false)
    (ki_NotFree_NotFree : PySem.W.kitOne K (.ref x_NotFree) (.ref x_NotFree) = some true)
    (ki_NotFree_NotTold : PySem.W.kitOne K (.ref x_NotTold) (.ref x_NotFree) = some false)
    (ki_NotFree_BadActing : PySem.W.kitOne K (.ref x_BadActing) (.ref x_NotFree) = some false)
    (ki_NotFree_BadRows : PySem.W.kitOne K (.ref x_BadRows) (.ref x_NotFree) = some false)
    (ki_NotFree_BadWay : PySem.W.kitOne K (.ref x_BadWay) (.ref x_NotFree) = some false)
    (ki_NotFree_BadLines : PySem.W.kitOne K (.ref x_BadLines) (.ref x_NotFree) = some false)
    (ki_NotFree_BadSpread : PySem.W.kitOne K (.ref x_BadSpread) (.ref x_NotFree) = some false)
    (ki_NotFree_BadCell : PySem.W.kitOne K (.ref x_BadCell) (.ref x_NotFree) = some false)
    (ki_NotFree_NotHere : PySem.W.kitOne K (.ref x_NotHere) (.ref x_NotFree) = some false)
    (ki_NotFree_NotAlike : PySem.W.kitOne K (.ref x_NotAlike) (.ref x_NotFree) = some false)
    (ki_NotFree_BadDeed : PySem.W.kitOne K (.ref x_BadDeed) (.ref x_NotFree) = some false)
    (ki_NotFree_BadLive : PySem.W.kitOne K (.ref x_BadLive) (.ref x_NotFree) = some false)
    (ki_NotFree_BadName : PySem.W.kitOne K (.ref x_BadName) (.ref x_NotFree) = some false)
    (ki_NotFree_BadText : PySem.W.kitOne K (.ref x_BadText) (.ref x_NotFree) = some false)
    (ki_NotFree_NoWatch : PySem.W.kitOne K (.ref x_NoWatch) (.ref x_NotFree) = some false)
    (ki_NotFree_NothingLeft : PySem.W.kitOne K (.ref x_NothingLeft) (.ref x_NotFree) = some false)
    (kn_NotHere : PySem.W.kitOne K (.type "NoneType") (.ref x_NotHere) = some false)
    (ki_NotHere_BoxError : PySem.W.kitOne K (.ref x_BoxError) (.ref x_NotHere) = some false)
    (ki_NotHere_BadPrime : PySem.W.kitOne K (.ref x_BadPrime) (.ref x_NotHere) = some false)
    (ki_NotHere_BadNumber : PySem.W.kitOne K (.ref x_BadNumber) (.ref x_NotHere) = some false)
    (ki_NotHere_BadShape : PySem.W.kitOne K (.ref x_BadShape) (.ref x_NotHere) = some false)
    (ki_NotHere_BadBox : PySem.W.kitOne K (.ref x_BadBox) (.ref x_NotHere) = some false)
    (ki_NotHere_BadFilling : PySem.W.kitOne K (.ref x_BadFilling) (.ref x_NotHere) = some false)
    (ki_NotHere_BadOrder : PySem.W.kitOne K (.ref x_BadOrder) (.ref x_NotHere) = some false)
    (ki_NotHere_BadSum : PySem.W.kitOne K (.ref x_BadSum) (.ref x_NotHere) = some false)
    (ki_NotHere_BadWord : PySem.W.kitOne K (.ref x_BadWord) (.ref x_NotHere) = some false)
    (ki_NotHere_TooMany : PySem.W.kitOne K (.ref x_TooMany) (.ref x_NotHere) = some false)
    (ki_NotHere_BadPowers : PySem.W.kitOne K (.ref x_BadPowers) (.ref x_NotHere) = some false)
    (ki_NotHere_BadCourse : PySem.W.kitOne K (.ref x_BadCourse) (.ref x_NotHere) = some false)
    (ki_NotHere_NotFree : PySem.W.kitOne K (.ref x_NotFree) (.ref x_NotHere) = some false)
    (ki_NotHere_NotTold : PySem.W.kitOne K (.ref x_NotTold) (.ref x_NotHere) = some false)
    (ki_NotHere_BadActing : PySem.W.kitOne K (.ref x_BadActing) (.ref x_NotHere) = some false)
    (ki_NotHere_BadRows : PySem.W.kitOne K (.ref x_BadRows) (.ref x_NotHere) = some false)
    (ki_NotHere_BadWay : PySem.W.kitOne K (.ref x_BadWay) (.ref x_NotHere) = some false)
    (ki_NotHere_BadLines : PySem.W.kitOne K (.ref x_BadLines) (.ref x_NotHere) = some false)
    (ki_NotHere_BadSpread : PySem.W.kitOne K (.ref x_BadSpread) (.ref x_NotHere) = some false)
    (ki_NotHere_BadCell : PySem.W.kitOne K (.ref x_BadCell) (.ref x_NotHere) = some false)
    (ki_NotHere_NotHere : PySem.W.kitOne K (.ref x_NotHere) (.ref x_NotHere) = some true)
    (ki_NotHere_NotAlike : PySem.W.kitOne K (.ref x_NotAlike) (.ref x_NotHere) = some false)
    (ki_NotHere_BadDeed : PySem.W.kitOne K (.ref x_BadDeed) (.ref x_NotHere) = some false)
    (ki_NotHere_BadLive : PySem.W.kitOne K (.ref x_BadLive) (.ref x_NotHere) = some false)
    (ki_NotHere_BadName : PySem.W.kitOne K (.ref x_BadName) (.ref x_NotHere) = some false)
    (ki_NotHere_BadText : PySem.W.kitOne K (.ref x_BadText) (.ref x_NotHere) = some false)
    (ki_NotHere_NoWatch : PySem.W.kitOne K (.ref x_NoWatch) (.ref x_NotHere) = some false)
    (ki_NotHere_NothingLeft : PySem.W.kitOne K (.ref x_NothingLeft) (.ref x_NotHere) = some false)
    (kn_NotTold : PySem.W.kitOne K (.type "NoneType") (.ref x_NotTold) = some false)
    (ki_NotTold_BoxError : PySem.W.kitOne K (.ref x_BoxError) (.ref x_NotTold) = some false)
    (ki_NotTold_BadPrime : PySem.W.kitOne K (.ref x_BadPrime) (.ref x_NotTold) = some false)
    (ki_NotTold_BadNumber : PySem.W.kitOne K (.ref x_BadNumber) (.ref x_NotTold) = some false)
    (ki_NotTold_BadShape : PySem.W.kitOne K (.ref x_BadShape) (.ref x_NotTold) = some false)
    (ki_NotTold_BadBox : PySem.W.kitOne K (.ref x_BadBox) (.ref x_NotTold) = some false)
    (ki_NotTold_BadFilling : PySem.W.kitOne K (.ref x_BadFilling) (.ref x_NotTold) = some false)
    (ki_NotTold_BadOrder : PySem.W.kitOne K (.ref x_BadOrder) (.ref x_NotTold) = some false)
    (ki_NotTold_BadSum : PySem.W.kitOne K (.ref x_BadSum) (.ref x_NotTold) = some false)
    (ki_NotTold_BadWord : PySem.W.kitOne K (.ref x_BadWord) (.ref x_NotTold) = some false)
    (ki_NotTold_TooMany : PySem.W.kitOne K (.ref x_TooMany) (.ref x_NotTold) = some false)
    (ki_NotTold_BadPowers : PySem.W.kitOne K (.ref x_BadPowers) (.ref x_NotTold) = some false)
    (ki_NotTold_BadCourse : PySem.W.kitOne K (.ref x_BadCourse) (.ref x_NotTold) = some false)
    (ki_NotTold_NotFree : PySem.W.kitOne K (.ref x_NotFree) (.ref x_NotTold) = some false)
    (ki_NotTold_NotTold : PySem.W.kitOne K (.ref x_NotTold) (.ref x_NotTold) = some true)
    (ki_NotTold_BadActing : PySem.W.kitOne K (.ref x_BadActing) (.ref x_NotTold) = some false)
    (ki_NotTold_BadRows : PySem.W.kitOne K (.ref x_BadRows) (.ref x_NotTold) = some false)
    (ki_NotTold_BadWay : PySem.W.kitOne K (.ref x_BadWay) (.ref x_NotTold) = some false)
    (ki_NotTold_BadLines : PySem.W.kitOne K (.ref x_BadLines) (.ref x_NotTold) = some false)
    (ki_NotTold_BadSpread : PySem.W.kitOne K (.ref x_BadSpread) (.ref x_NotTold) = some false)
    (ki_NotTold_BadCell : PySem.W.kitOne K (.ref x_BadCell) (.ref x_NotTold) = some false)
    (ki_NotTold_NotHere : PySem.W.kitOne K (.ref x_NotHere) (.ref x_NotTold) = some false)
    (ki_NotTold_NotAlike : PySem.W.kitOne K (.ref x_NotAlike) (.ref x_NotTold) = some false)
    (ki_NotTold_BadDeed : PySem.W.kitOne K (.ref x_BadDeed) (.ref x_NotTold) = some false)
    (ki_NotTold_BadLive : PySem.W.kitOne K (.ref x_BadLive) (.ref x_NotTold) = some false)
    (ki_NotTold_BadName : PySem.W.kitOne K (.ref x_BadName) (.ref x_NotTold) = some false)
    (ki_NotTold_BadText : PySem.W.kitOne K (.ref x_BadText) (.ref x_NotTold) = some false)
    (ki_NotTold_NoWatch : PySem.W.kitOne K (.ref x_NoWatch) (.ref x_NotTold) = some false)
    (ki_NotTold_NothingLeft : PySem.W.kitOne K (.ref x_NothingLeft) (.ref x_NotTold) = some false)
    (kn_NothingLeft : PySem.W.kitOne K (.type "NoneType") (.ref x_NothingLeft) = some false)
    (ki_NothingLeft_BoxError : PySem.W.kitOne K (.ref x_BoxError) (.ref x_NothingLeft) = some false)
    (ki_NothingLeft_BadPrime : PySem.W.kitOne K (.ref x_BadPrime) (.ref x_NothingLeft) = some false)
    (ki_NothingLeft_BadNumber : PySem.W.kitOne K (.ref x_BadNumber) (.ref x_NothingLeft) = some false)
    (ki_NothingLeft_BadShape : PySem.W.kitOne K (.ref x_BadShape) (.ref x_NothingLeft) = some false)
    (ki_NothingLeft_BadBox : PySem.W.kitOne K (.ref x_BadBox) (.ref x_NothingLeft) = some false)
    (ki_NothingLeft_BadFilling : PySem.W.kitOne K (.ref x_BadFilling) (.ref x_NothingLeft) = some false)
    (ki_NothingLeft_BadOrder : PySem.W.kitOne K (.ref x_BadOrder) (.ref x_NothingLeft) = some false)
    (ki_NothingLeft_BadSum : PySem.W.kitOne K (.ref x_BadSum) (.ref x_NothingLeft) = some false)
    (ki_NothingLeft_BadWord : PySem.W.kitOne K (.ref x_BadWord) (.ref x_NothingLeft) = some false)
    (ki_NothingLeft_TooMany : PySem.W.kitOne K (.ref x_TooMany) (.ref x_NothingLeft) = some false)
    (ki_NothingLeft_BadPowers : PySem.W.kitOne K (.ref x_BadPowers) (.ref x_NothingLeft) = some false)
    (ki_NothingLeft_BadCourse : PySem.W.kitOne K (.ref x_BadCourse) (.ref x_NothingLeft) = some false)
    (ki_NothingLeft_NotFree : PySem.W.kitOne K (.ref x_NotFree) (.ref x_NothingLeft) = some false)
    (ki_NothingLeft_NotTold : PySem.W.kitOne K (.ref x_NotTold) (.ref x_NothingLeft) = some false)
    (ki_NothingLeft_BadActing : PySem.W.kitOne K (.ref x_BadActing) (.ref x_NothingLeft) = some false)
    (ki_NothingLeft_BadRows : PySem.W.kitOne K (.ref x_BadRows) (.ref x_NothingLeft) = some false)
    (ki_NothingLeft_BadWay : PySem.W.kitOne K (.ref x_BadWay) (.ref x_NothingLeft) = some false)
    (ki_NothingLeft_BadLines : PySem.W.kitOne K (.ref x_BadLines) (.ref x_NothingLeft) = some false)
    (ki_NothingLeft_BadSpread : PySem.W.kitOne K (.ref x_BadSpread) (.ref x_NothingLeft) = some false)
    (ki_NothingLeft_BadCell : PySem.W.kitOne K (.ref x_BadCell) (.ref x_NothingLeft) = some false)
    (ki_NothingLeft_NotHere : PySem.W.kitOne K (.ref x_NotHere) (.ref x_NothingLeft) = some false)
    (ki_NothingLeft_NotAlike : PySem.W.kitOne K (.ref x_NotAlike) (.ref x_NothingLeft) = some false)
    (ki_NothingLeft_BadDeed : PySem.W.kitOne K (.ref x_BadDeed) (.ref x_NothingLeft) = some false)
    (ki_NothingLeft_BadLive : PySem.W.kitOne K (.ref x_BadLive) (.ref x_NothingLeft) = some false)
    (ki_NothingLeft_BadName : PySem.W.kitOne K (.ref x_BadName) (.ref x_NothingLeft) = some false)
    (ki_NothingLeft_BadText : PySem.W.kitOne K (.ref x_BadText) (.ref x_NothingLeft) = some false)
    (ki_NothingLeft_NoWatch : PySem.W.kitOne K (.ref x_NoWatch) (.ref x_NothingLeft) = some false)
    (ki_NothingLeft_NothingLeft : PySem.W.kitOne K (.ref x_NothingLeft) (.ref x_NothingLeft) = some true)
    (kn_TooMany : PySem.W.kitOne K (.type "NoneType") (.ref x_TooMany) = some false)
    (ki_TooMany_BoxError : PySem.W.kitOne K (.ref x_BoxError) (.ref x_TooMany) = some false)
    (ki_TooMany_BadPrime : PySem.W.kitOne K (.ref x_BadPrime) (.ref x_TooMany) = some false)
    (ki_TooMany_BadNumber : PySem.W.kitOne K (.ref x_BadNumber) (.ref x_TooMany) = some false)
    (ki_TooMany_BadShape : PySem.W.kitOne K (.ref x_BadShape) (.ref x_TooMany) = some false)
    (ki_TooMany_BadBox : PySem.W.kitOne K (.ref x_BadBox) (.ref x_TooMany) = some false)
    (ki_TooMany_BadFilling : PySem.W.kitOne K (.ref x_BadFilling) (.ref x_TooMany) = some false)
    (ki_TooMany_BadOrder : PySem.W.kitOne K (.ref x_BadOrder) (.ref x_TooMany) = some false)
    (ki_TooMany_BadSum : PySem.W.kitOne K (.ref x_BadSum) (.ref x_TooMany) = some false)
    (ki_TooMany_BadWord : PySem.W.kitOne K (.ref x_BadWord) (.ref x_TooMany) = some false)
    (ki_TooMany_TooMany : PySem.W.kitOne K (.ref x_TooMany) (.ref x_TooMany) = some true)
    (ki_TooMany_BadPowers : PySem.W.kitOne K (.ref x_BadPowers) (.ref x_TooMany) = some false)
    (ki_TooMany_BadCourse : PySem.W.kitOne K (.ref x_BadCourse) (.ref x_TooMany) = some false)
    (ki_TooMany_NotFree : PySem.W.kitOne K (.ref x_NotFree) (.ref x_TooMany) = some false)
    (ki_TooMany_NotTold : PySem.W.kitOne K (.ref x_NotTold) (.ref x_TooMany) = some false)
    (ki_TooMany_BadActing : PySem.W.kitOne K (.ref x_BadActing) (.ref x_TooMany) = some false)
    (ki_TooMany_BadRows : PySem.W.kitOne K (.ref x_BadRows) (.ref x_TooMany) = some false)
    (ki_TooMany_BadWay : PySem.W.kitOne K (.ref x_BadWay) (.ref x_TooMany) = some false)
    (ki_TooMany_BadLines : PySem.W.kitOne K (.ref x_BadLines) (.ref x_TooMany) = some false)
    (ki_TooMany_BadSpread : PySem.W.kitOne K (.ref x_BadSpread) (.ref x_TooMany) = some false)
    (ki_TooMany_BadCell : PySem.W.kitOne K (.ref x_BadCell) (.ref x_TooMany) = some false)
    (ki_TooMany_NotHere : PySem.W.kitOne K (.ref x_NotHere) (.ref x_TooMany) = some false)
    (ki_TooMany_NotAlike : PySem.W.kitOne K (.ref x_NotAlike) (.ref x_TooMany) = some false)
    (ki_TooMany_BadDeed : PySem.W.kitOne K (.ref x_BadDeed) (.ref x_TooMany) = some false)
    (ki_TooMany_BadLive : PySem.W.kitOne K (.ref x_BadLive) (.ref x_TooMany) = some false)
    (ki_TooMany_BadName : PySem.W.kitOne K (.ref x_BadName) (.ref x_TooMany) = some false)
    (ki_TooMany_BadText : PySem.W.kitOne K (.ref x_BadText) (.ref x_TooMany) = some false)
    (ki_TooMany_NoWatch : PySem.W.kitOne K (.ref x_NoWatch) (.ref x_TooMany) = some false)
    (ki_TooMany_NothingLeft : PySem.W.kitOne K (.ref x_NothingLeft) (.ref x_TooMany) = some false)
    (kb_ValueError_BoxError : PySem.W.kitOne K (.ref x_BoxError) (.type "ValueError") = some true)
    (kb_ValueError_BadPrime : PySem.W.kitOne K (.ref x_BadPrime) (.type "ValueError") = some true)
    (kb_ValueError_BadNumber : PySem.W.kitOne K (.ref x_BadNumber) (.type "ValueError") = some true)
    (kb_ValueError_BadShape : PySem.W.kitOne K (.ref x_BadShape) (.type "ValueError") = some true)
    (kb_ValueError_BadBox : PySem.W.kitOne K (.ref x_BadBox) (.type "ValueError") = some true)
    (kb_ValueError_BadFilling : PySem.W.kitOne K (.ref x_BadFilling) (.type "ValueError") = some true)
    (kb_ValueError_BadOrder : PySem.W.kitOne K (.ref x_BadOrder) (.type "ValueError") = some true)
    (kb_ValueError_BadSum : PySem.W.kitOne K (.ref x_BadSum) (.type "ValueError") = some true)
    (kb_ValueError_BadWord : PySem.W.kitOne K (.ref x_BadWord) (.type "ValueError") = some true)
    (kb_ValueError_TooMany : PySem.W.kitOne K (.ref x_TooMany) (.type "ValueError") = some true)
    (kb_ValueError_BadPowers : PySem.W.kitOne K (.ref x_BadPowers) (.type "ValueError") = some true)
    (kb_ValueError_BadCourse : PySem.W.kitOne K (.ref x_BadCourse) (.type "ValueError") = some true)
    (kb_ValueError_NotFree : PySem.W.kitOne K (.ref x_NotFree) (.type "ValueError") = some true)
    (kb_ValueError_NotTold : PySem.W.kitOne K (.ref x_NotTold) (.type "ValueError") = some true)
    (kb_ValueError_BadActing : PySem.W.kitOne K (.ref x_BadActing) (.type "ValueError") = some true)
    (kb_ValueError_BadRows : PySem.W.kitOne K (.ref x_BadRows) (.type "ValueError") = some true)
    (kb_ValueError_BadWay : PySem.W.kitOne K (.ref x_BadWay) (.type "ValueError") = some true)
    (kb_ValueError_BadLines : PySem.W.kitOne K (.ref x_BadLines) (.type "ValueError") = some true)
    (kb_ValueError_BadSpread : PySem.W.kitOne K (.ref x_BadSpread) (.type "ValueError") = some true)
    (kb_ValueError_BadCell : PySem.W.kitOne K (.ref x_BadCell) (.type "ValueError") = some true)
    (kb_ValueError_NotHere : PySem.W.kitOne K (.ref x_NotHere) (.type "ValueError") = some true)
    (kb_ValueError_NotAlike : PySem.W.kitOne K (.ref x_NotAlike) (.type "ValueError") = some true)
    (kb_ValueError_BadDeed : PySem.W.kitOne K (.ref x_BadDeed) (.type "ValueError") = some true)
    (kb_ValueError_BadLive : PySem.W.kitOne K (.ref x_BadLive) (.type "ValueError") = some true)
    (kb_ValueError_BadName : PySem.W.kitOne K (.ref x_BadName) (.type "ValueError") = some true)
    (kb_ValueError_BadText : PySem.W.kitOne K (.ref x_BadText) (.type "ValueError") = some true)
    (kb_ValueError_NoWatch : PySem.W.kitOne K (.ref x_NoWatch) (.type "ValueError") = some true)
    (kb_ValueError_NothingLeft : PySem.W.kitOne K (.ref x_NothingLeft) (.type "ValueError") = some true)
    (ft : (P.main.scope.names.lookup ("super" : Str)).isSome = false)
    : ∃ (fd : FuncData) (cs : List (Addr × Addr)) (sp : Sp), (∀ p ∈ cs, h.get? p.2 = some { cls := .none, data := .fields #[] }) ∧ (∀ p ∈ cs, K.lookup p.2 = none) ∧ (∀ p ∈ cs, PySem.W.CodeHd h p.1 p.2) ∧ (∀ (s : Shared) (u : Value), BindsTo s fd ⟨[u], []⟩ [("_law_script", u)]) ∧
    (∀ (H : Hp) (a : Addr) (ns : List Int), ns.length ≤ 63 → (∀ p ∈ cs, H p.2 = some (.tbl #[])) → SqL K H a (ns.map V.int) → (∀ b o, H b = some o → (∃ ps, o = .tbl ps) ∨ ∃ ob xs, o = .frz ob xs) → sp [.ref a] H (fun v _ => v = .bl true) fun _ _ _ => False) ∧
    ∀ base : Heap, K.In base → base.Ns mainGlobals mg → (∀ p ∈ cs, LamX.TabB base mg p.1 p.2) → FnG true P w K mg base KK fa fd ["_law_script"] sp := by
  have ef := hfa.symm.trans (PySem.W.mg_of X G n_law)
  have ef2 : x_law = fa := by cases ef; rfl
  subst ef2
  have K__law_begun : LkF K mg "_law_begun" st__law_begun x__law_begun cd__law_begun := ⟨⟨_, _, _, _, _, _, _, _, l__law_begun⟩, c__law_begun, PySem.W.mg_of X G n__law_begun, k__law_begun⟩
  have K__law_mixed : LkF K mg "_law_mixed" st__law_mixed x__law_mixed cd__law_mixed := ⟨⟨_, _, _, _, _, _, _, _, l__law_mixed⟩, c__law_mixed, PySem.W.mg_of X G n__law_mixed, k__law_mixed⟩
  have K__law_take : LkF K mg "_law_take" (top 32) x__law_take cd__law_take := ⟨⟨_, _, _, _, _, _, _, _, l__law_take⟩, c__law_take, PySem.W.mg_of X G n__law_take, k__law_take⟩
  have K__law_pick : LkF K mg "_law_pick" st__law_pick x__law_pick cd__law_pick := ⟨⟨_, _, _, _, _, _, _, _, l__law_pick⟩, c__law_pick, PySem.W.mg_of X G n__law_pick, k__law_pick⟩
  have K__law_any : LkF K mg "_law_any" st__law_any x__law_any cd__law_any := ⟨⟨_, _, _, _, _, _, _, _, l__law_any⟩, c__law_any, PySem.W.mg_of X G n__law_any, k__law_any⟩
  have K__law_kinds : LkF K mg "_law_kinds" st__law_kinds x__law_kinds cd__law_kinds := ⟨⟨_, _, _, _, _, _, _, _, l__law_kinds⟩, c__law_kinds, PySem.W.mg_of X G n__law_kinds, k__law_kinds⟩
  have K__law_plain_errors : LkF K mg "_law_plain_errors" st__law_plain_errors x__law_plain_errors cd__law_plain_errors := ⟨⟨_, _, _, _, _, _, _, _, l__law_plain_errors⟩, c__law_plain_errors, PySem.W.mg_of X G n__law_plain_errors, k__law_plain_errors⟩
  have K__law_errors_of : LkF K mg "_law_errors_of" st__law_errors_of x__law_errors_of cd__law_errors_of := ⟨⟨_, _, _, _, _, _, _, _, l__law_errors_of⟩, c__law_errors_of, PySem.W.mg_of X G n__law_errors_of, k__law_errors_of⟩
  have K_law : LkF K mg "law" st_law x_law cd_law := ⟨⟨_, _, _, _, _, _, _, _, l_law⟩, c_law, PySem.W.mg_of X G n_law, k_law⟩
  have g_ValueError := PySem.W.mg_none_of X G z_ValueError
  have g_abs := PySem.W.mg_none_of X G z_abs
  have g_enumerate := PySem.W.mg_none_of X G z_enumerate
  have g_int := PySem.W.mg_none_of X G z_int
  have g_isinstance := PySem.W.mg_none_of X G z_isinstance
  have g_len := PySem.W.mg_none_of X G z_len
  have g_range := PySem.W.mg_none_of X G z_range
  have g_repr := PySem.W.mg_none_of X G z_repr
  have g_super := PySem.W.mg_none_of X G z_super
  have T_BoxError : EcT K x_BoxError := ⟨ec1_BoxError, ec2_BoxError, ec3_BoxError, ec4_BoxError, ec5_BoxError, eN, eT, ec6_BoxError, ec7_BoxError⟩
  have T_BadPrime : EcT K x_BadPrime := ⟨ec1_BadPrime, ec2_BadPrime, ec3_BadPrime, ec4_BadPrime, ec5_BadPrime, eN, eT, ec6_BadPrime, ec7_BadPrime⟩
  have T_BadNumber : EcT K x_BadNumber := ⟨ec1_BadNumber, ec2_BadNumber, ec3_BadNumber, ec4_BadNumber, ec5_BadNumber, eN, eT, ec6_BadNumber, ec7_BadNumber⟩
  have T_BadShape : EcT K x_BadShape := ⟨ec1_BadShape, ec2_BadShape, ec3_BadShape, ec4_BadShape, ec5_BadShape, eN, eT, ec6_BadShape, ec7_BadShape⟩
  have T_BadBox : EcT K x_BadBox := ⟨ec1_BadBox, ec2_BadBox, ec3_BadBox, ec4_BadBox, ec5_BadBox, eN, eT, ec6_BadBox, ec7_BadBox⟩
  have T_BadFilling : EcT K x_BadFilling := ⟨ec1_BadFilling, ec2_BadFilling, ec3_BadFilling, ec4_BadFilling, ec5_BadFilling, eN, eT, ec6_BadFilling, ec7_BadFilling⟩
  have T_BadOrder : EcT K x_BadOrder := ⟨ec1_BadOrder, ec2_BadOrder, ec3_BadOrder, ec4_BadOrder, ec5_BadOrder, eN, eT, ec6_BadOrder, ec7_BadOrder⟩
  have T_BadSum : EcT K x_BadSum := ⟨ec1_BadSum, ec2_BadSum, ec3_BadSum, ec4_BadSum, ec5_BadSum, eN, eT, ec6_BadSum, ec7_BadSum⟩
  have T_BadWord : EcT K x_BadWord := ⟨ec1_BadWord, ec2_BadWord, ec3_BadWord, ec4_BadWord, ec5_BadWord, eN, eT, ec6_BadWord, ec7_BadWord⟩
  have T_TooMany : EcT K x_TooMany := ⟨ec1_TooMany, ec2_TooMany, ec3_TooMany, ec4_TooMany, ec5_TooMany, eN, eT, ec6_TooMany, ec7_TooMany⟩
  have T_BadPowers : EcT K x_BadPowers := ⟨ec1_BadPowers, ec2_BadPowers, ec3_BadPowers, ec4_BadPowers, ec5_BadPowers, eN, eT, ec6_BadPowers, ec7_BadPowers⟩
  have T_BadCourse : EcT K x_BadCourse := ⟨ec1_BadCourse, ec2_BadCourse, ec3_BadCourse, ec4_BadCourse, ec5_BadCourse, eN, eT, ec6_BadCourse, ec7_BadCourse⟩
  have T_NotFree : EcT K x_NotFree := ⟨ec1_NotFree, ec2_NotFree, ec3_NotFree, ec4_NotFree, ec5_NotFree, eN, eT, ec6_NotFree, ec7_NotFree⟩
  have T_NotTold : EcT K x_NotTold := ⟨ec1_NotTold, ec2_NotTold, ec3_NotTold, ec4_NotTold, ec5_NotTold, eN, eT, ec6_NotTold, ec7_NotTold⟩
  have T_BadActing : EcT K x_BadActing := ⟨ec1_BadActing, ec2_BadActing, ec3_BadActing, ec4_BadActing, ec5_BadActing, eN, eT, ec6_BadActing, ec7_BadActing⟩
  have T_BadRows : EcT K x_BadRows := ⟨ec1_BadRows, ec2_BadRows, ec3_BadRows, ec4_BadRows, ec5_BadRows, eN, eT, ec6_BadRows, ec7_BadRows⟩
  have T_BadWay : EcT K x_BadWay := ⟨ec1_BadWay, ec2_BadWay, ec3_BadWay, ec4_BadWay, ec5_BadWay, eN, eT, ec6_BadWay, ec7_BadWay⟩
  have T_BadLines : EcT K x_BadLines := ⟨ec1_BadLines, ec2_BadLines, ec3_BadLines, ec4_BadLines, ec5_BadLines, eN, eT, ec6_BadLines, ec7_BadLines⟩
  have T_BadSpread : EcT K x_BadSpread := ⟨ec1_BadSpread, ec2_BadSpread, ec3_BadSpread, ec4_BadSpread, ec5_BadSpread, eN, eT, ec6_BadSpread, ec7_BadSpread⟩
  have T_BadCell : EcT K x_BadCell := ⟨ec1_BadCell, ec2_BadCell, ec3_BadCell, ec4_BadCell, ec5_BadCell, eN, eT, ec6_BadCell, ec7_BadCell⟩
  have T_NotHere : EcT K x_NotHere := ⟨ec1_NotHere, ec2_NotHere, ec3_NotHere, ec4_NotHere, ec5_NotHere, eN, eT, ec6_NotHere, ec7_NotHere⟩
  have T_NotAlike : EcT K x_NotAlike := ⟨ec1_NotAlike, ec2_NotAlike, ec3_NotAlike, ec4_NotAlike, ec5_NotAlike, eN, eT, ec6_NotAlike, ec7_NotAlike⟩
  have T_BadDeed : EcT K x_BadDeed := ⟨ec1_BadDeed, ec2_BadDeed, ec3_BadDeed, ec4_BadDeed, ec5_BadDeed, eN, eT, ec6_BadDeed, ec7_BadDeed⟩
  have T_BadLive : EcT K x_BadLive := ⟨ec1_BadLive, ec2_BadLive, ec3_BadLive, ec4_BadLive, ec5_BadLive, eN, eT, ec6_BadLive, ec7_BadLive⟩
  have T_BadName : EcT K x_BadName := ⟨ec1_BadName, ec2_BadName, ec3_BadName, ec4_BadName, ec5_BadName, eN, eT, ec6_BadName, ec7_BadName⟩
  have T_BadText : EcT K x_BadText := ⟨ec1_BadText, ec2_BadText, ec3_BadText, ec4_BadText, ec5_BadText, eN, eT, ec6_BadText, ec7_BadText⟩
  have T_NoWatch : EcT K x_NoWatch := ⟨ec1_NoWatch, ec2_NoWatch, ec3_NoWatch, ec4_NoWatch, ec5_NoWatch, eN, eT, ec6_NoWatch, ec7_NoWatch⟩
  have T_NothingLeft : EcT K x_NothingLeft := ⟨ec1_NothingLeft, ec2_NothingLeft, ec3_NothingLeft, ec4_NothingLeft, ec5_NothingLeft, eN, eT, ec6_NothingLeft, ec7_NothingLeft⟩
  let ad : Addr → Addr → Addr → Addr → Ad := fun gd L C a => ⟨gd, L, C, a, ([] : List (Addr × Str)), (fun n => ([x__law_begun, x__law_mixed, x__law_take, x__law_pick, x__law_any, x__law_kinds, x__law_plain_errors, x__law_errors_of, x_law] : List Addr).getD n 0), (fun n => ([x_BoxError, x_BadPrime, x_BadNumber, x_BadShape, x_BadBox, x_BadFilling, x_BadOrder, x_BadSum, x_BadWord, x_TooMany, x_BadPowers, x_BadCourse, x_NotFree, x_NotTold, x_BadActing, x_BadRows, x_BadWay, x_BadLines, x_BadSpread, x_BadCell, x_NotHere, x_NotAlike, x_BadDeed, x_BadLive, x_BadName, x_BadText, x_NoWatch, x_NothingLeft] : List Addr).getD n 0), (fun n => (["", "", "part", "", "", "", "", "", "", "most", "", "", "", "", "part", "", "", "", "", "", "", "", "", "", "", "at", "name", ""] : List Str).getD n ""), (fun n => ([false, false, true, false, false, false, false, false, false, true, false, false, false, false, true, false, false, false, false, false, false, false, false, false, false, true, true, false] : List Bool).getD n false)⟩
  have MK : ∀ base : Heap, (∀ p ∈ ([] : List (Addr × Addr)), LamX.TabB base mg p.1 p.2) → ∃ fd, FnG true P w K mg base KK x_law fd ["_law_script"] (spLaw K ([] : List (Addr × Str))) ∧ ∃ oc kV doc pm ct od an osl, K.lookup x_law = some ⟨oc, od, .func fd, osl⟩ ∧ fd = PySem.W.fnOf "law" "law" (defArgs st_law) (defBody st_law) (defScope st_law) .none kV doc pm an cd_law ct := by
    intro base hTB
    refine law_fn (m := m_law) (st := st_law) (N := N_law) (n := 9) (k := KB) (fnA := (fun n => ([x__law_begun, x__law_mixed, x__law_take, x__law_pick, x__law_any, x__law_kinds, x__law_plain_errors, x__law_errors_of, x_law] : List Addr).getD n 0)) (clsA := (fun n => ([x_BoxError, x_BadPrime, x_BadNumber, x_BadShape, x_BadBox, x_BadFilling, x_BadOrder, x_BadSum, x_BadWord, x_TooMany, x_BadPowers, x_BadCourse, x_NotFree, x_NotTold, x_BadActing, x_BadRows, x_BadWay, x_BadLines, x_BadSpread, x_BadCell, x_NotHere, x_NotAlike, x_BadDeed, x_BadLive, x_BadName, x_BadText, x_NoWatch, x_NothingLeft] : List Addr).getD n 0)) (fld := (fun n => (["", "", "part", "", "", "", "", "", "", "most", "", "", "", "", "part", "", "", "", "", "", "", "", "", "", "", "at", "name", ""] : List Str).getD n "")) (hf := (fun n => ([false, false, true, false, false, false, false, false, false, true, false, false, false, false, true, false, false, false, false, false, false, false, false, false, false, true, true, false] : List Bool).getD n false)) (T := ([] : List (Addr × Str))) K_law sc_law rfl rfl rfl rfl (by first | exact .inl rfl | exact .inr (.inl rfl)) (by first | exact .inl rfl | exact .inr rfl) rfl (fun _ => rfl) (fun a => (p__law_begun (P := P) (w := w) (base := base) (W := Wt K a) (K := K) (k := 0) rfl K__law_begun g_abs).up (by decide)) (fun gd L C a E A outer s H o0 => ?_) law_holds
    let W := WL K (ad gd L C a)
    have E_BoxError : ErP W K mg 0 "BoxError" := ⟨x1_BoxError, PySem.W.mg_of X G n_BoxError, ec9_BoxError, ec4_BoxError, ec8_BoxError, rfl⟩
    have E_BadPrime : ErP W K mg 1 "BadPrime" := ⟨x1_BadPrime, PySem.W.mg_of X G n_BadPrime, ec9_BadPrime, ec4_BadPrime, ec8_BadPrime, rfl⟩
    have E_BadNumber : ErF W P K mg 2 "BadNumber" "part" "a number is wrong" := ⟨⟨i_BadNumber, ⟨PySem.W.mg_of X G n_BadNumber, ⟨_, _, _, _, _, _, _, _, _, _, _, _, _, _, _, L_BadNumber, rb_BadNumber⟩, sa_BadNumber, nf_BadNumber, ii_BadNumber, it_BadNumber, ec9_BadNumber, ec4_BadNumber, ec8_BadNumber, ⟨_, _, _, _, _, _, _, _, _, _, _, ⟨_, _, _, _, _, _, _, _, _, _, _⟩, _, _, _, _, _, _, _, _, _, _, il_BadNumber, ic_BadNumber, cl1_BadNumber, cf_BadNumber, ce_BadNumber, kc_BadNumber, rfl⟩, m1_BadNumber, su_BadNumber, ve_BadNumber, eA, g_super, ft⟩⟩, ⟨rfl, rfl, rfl, fun _ _ => rfl, fun _ _ => rfl, by decide, fun _ _ _ _ _ _ _ _ _ _ _ _ _ => rfl⟩, rfl, rfl⟩
    have E_BadShape : ErP W K mg 3 "BadShape" := ⟨x1_BadShape, PySem.W.mg_of X G n_BadShape, ec9_BadShape, ec4_BadShape, ec8_BadShape, rfl⟩
    have E_BadBox : ErP W K mg 4 "BadBox" := ⟨x1_BadBox, PySem.W.mg_of X G n_BadBox, ec9_BadBox, ec4_BadBox, ec8_BadBox, rfl⟩
    have E_BadFilling : ErP W K mg 5 "BadFilling" := ⟨x1_BadFilling, PySem.W.mg_of X G n_BadFilling, ec9_BadFilling, ec4_BadFilling, ec8_BadFilling, rfl⟩
    have E_BadOrder : ErP W K mg 6 "BadOrder" := ⟨x1_BadOrder, PySem.W.mg_of X G n_BadOrder, ec9_BadOrder, ec4_BadOrder, ec8_BadOrder, rfl⟩
    have E_BadSum : ErP W K mg 7 "BadSum" := ⟨x1_BadSum, PySem.W.mg_of X G n_BadSum, ec9_BadSum, ec4_BadSum, ec8_BadSum, rfl⟩
    have E_BadWord : ErP W K mg 8 "BadWord" := ⟨x1_BadWord, PySem.W.mg_of X G n_BadWord, ec9_BadWord, ec4_BadWord, ec8_BadWord, rfl⟩
    have E_TooMany : ErF W P K mg 9 "TooMany" "most" "more than can be worked out" := ⟨⟨i_TooMany, ⟨PySem.W.mg_of X G n_TooMany, ⟨_, _, _, _, _, _, _, _, _, _, _, _, _, _, _, L_TooMany, rb_TooMany⟩, sa_TooMany, nf_TooMany, ii_TooMany, it_TooMany, ec9_TooMany, ec4_TooMany, ec8_TooMany, ⟨_, _, _, _, _, _, _, _, _, _, _, ⟨_, _, _, _, _, _, _, _, _, _, _⟩, _, _, _, _, _, _, _, _, _, _, il_TooMany, ic_TooMany, cl1_TooMany, cf_TooMany, ce_TooMany, kc_TooMany, rfl⟩, m1_TooMany, su_TooMany, ve_TooMany, eA, g_super, ft⟩⟩, ⟨rfl, rfl, rfl, fun _ _ => rfl, fun _ _ => rfl, by decide, fun _ _ _ _ _ _ _ _ _ _ _ _ _ => rfl⟩, rfl, rfl⟩
    have E_BadPowers : ErP W K mg 10 "BadPowers" := ⟨x1_BadPowers, PySem.W.mg_of X G n_BadPowers, ec9_BadPowers, ec4_BadPowers, ec8_BadPowers, rfl⟩
    have E_BadCourse : ErP W K mg 11 "BadCourse" := ⟨x1_BadCourse, PySem.W.mg_of X G n_BadCourse, ec9_BadCourse, ec4_BadCourse, ec8_BadCourse, rfl⟩
    have E_NotFree : ErP W K mg 12 "NotFree" := ⟨x1_NotFree, PySem.W.mg_of X G n_NotFree, ec9_NotFree, ec4_NotFree, ec8_NotFree, rfl⟩
    have E_NotTold : ErP W K mg 13 "NotTold" := ⟨x1_NotTold, PySem.W.mg_of X G n_NotTold, ec9_NotTold, ec4_NotTold, ec8_NotTold, rfl⟩
    have E_BadActing : ErF W P K mg 14 "BadActing" "part" "a part of an acting is wrong, two do not fit, or it is no acting" := ⟨⟨i_BadActing, ⟨PySem.W.mg_of X G n_BadActing, ⟨_, _, _, _, _, _, _, _, _, _, _, _, _, _, _, L_BadActing, rb_BadActing⟩, sa_BadActing, nf_BadActing, ii_BadActing, it_BadActing, ec9_BadActing, ec4_BadActing, ec8_BadActing, ⟨_, _, _, _, _, _, _, _, _, _, _, ⟨_, _, _, _, _, _, _, _, _, _, _⟩, _, _, _, _, _, _, _, _, _, _, il_BadActing, ic_BadActing, cl1_BadActing, cf_BadActing, ce_BadActing, kc_BadActing, rfl⟩, m1_BadActing, su_BadActing, ve_BadActing, eA, g_super, ft⟩⟩, ⟨rfl, rfl, rfl, fun _ _ => rfl, fun _ _ => rfl, by decide, fun _ _ _ _ _ _ _ _ _ _ _ _ _ => rfl⟩, rfl, rfl⟩
    have E_BadRows : ErP W K mg 15 "BadRows" := ⟨x1_BadRows, PySem.W.mg_of X G n_BadRows, ec9_BadRows, ec4_BadRows, ec8_BadRows, rfl⟩
    have E_BadWay : ErP W K mg 16 "BadWay" := ⟨x1_BadWay, PySem.W.mg_of X G n_BadWay, ec9_BadWay, ec4_BadWay, ec8_BadWay, rfl⟩
    have E_BadLines : ErP W K mg 17 "BadLines" := ⟨x1_BadLines, PySem.W.mg_of X G n_BadLines, ec9_BadLines, ec4_BadLines, ec8_BadLines, rfl⟩
    have E_BadSpread : ErP W K mg 18 "BadSpread" := ⟨x1_BadSpread, PySem.W.mg_of X G n_BadSpread, ec9_BadSpread, ec4_BadSpread, ec8_BadSpread, rfl⟩
    have E_BadCell : ErP W K mg 19 "BadCell" := ⟨x1_BadCell, PySem.W.mg_of X G n_BadCell, ec9_BadCell, ec4_BadCell, ec8_BadCell, rfl⟩
    have E_NotHere : ErP W K mg 20 "NotHere" := ⟨x1_NotHere, PySem.W.mg_of X G n_NotHere, ec9_NotHere, ec4_NotHere, ec8_NotHere, rfl⟩
    have E_NotAlike : ErP W K mg 21 "NotAlike" := ⟨x1_NotAlike, PySem.W.mg_of X G n_NotAlike, ec9_NotAlike, ec4_NotAlike, ec8_NotAlike, rfl⟩
    have E_BadDeed : ErP W K mg 22 "BadDeed" := ⟨x1_BadDeed, PySem.W.mg_of X G n_BadDeed, ec9_BadDeed, ec4_BadDeed, ec8_BadDeed, rfl⟩
    have E_BadLive : ErP W K mg 23 "BadLive" := ⟨x1_BadLive, PySem.W.mg_of X G n_BadLive, ec9_BadLive, ec4_BadLive, ec8_BadLive, rfl⟩
    have E_BadName : ErP W K mg 24 "BadName" := ⟨x1_BadName, PySem.W.mg_of X G n_BadName, ec9_BadName, ec4_BadName, ec8_BadName, rfl⟩
    have E_BadText : ErF W P K mg 25 "BadText" "at" "not a text" := ⟨⟨i_BadText, ⟨PySem.W.mg_of X G n_BadText, ⟨_, _, _, _, _, _, _, _, _, _, _, _, _, _, _, L_BadText, rb_BadText⟩, sa_BadText, nf_BadText, ii_BadText, it_BadText, ec9_BadText, ec4_BadText, ec8_BadText, ⟨_, _, _, _, _, _, _, _, _, _, _, ⟨_, _, _, _, _, _, _, _, _, _, _⟩, _, _, _, _, _, _, _, _, _, _, il_BadText, ic_BadText, cl1_BadText, cf_BadText, ce_BadText, kc_BadText, rfl⟩, m1_BadText, su_BadText, ve_BadText, eA, g_super, ft⟩⟩, ⟨rfl, rfl, rfl, fun _ _ => rfl, fun _ _ => rfl, by decide, fun _ _ _ _ _ _ _ _ _ _ _ _ _ => rfl⟩, rfl, rfl⟩
    have E_NoWatch : ErF W P K mg 26 "NoWatch" "name" "nothing is watched under a name" := ⟨⟨i_NoWatch, ⟨PySem.W.mg_of X G n_NoWatch, ⟨_, _, _, _, _, _, _, _, _, _, _, _, _, _, _, L_NoWatch, rb_NoWatch⟩, sa_NoWatch, nf_NoWatch, ii_NoWatch, it_NoWatch, ec9_NoWatch, ec4_NoWatch, ec8_NoWatch, ⟨_, _, _, _, _, _, _, _, _, _, _, ⟨_, _, _, _, _, _, _, _, _, _, _⟩, _, _, _, _, _, _, _, _, _, _, il_NoWatch, ic_NoWatch, cl1_NoWatch, cf_NoWatch, ce_NoWatch, kc_NoWatch, rfl⟩, m1_NoWatch, su_NoWatch, ve_NoWatch, eA, g_super, ft⟩⟩, ⟨rfl, rfl, rfl, fun _ _ => rfl, fun _ _ => rfl, by decide, fun _ _ _ _ _ _ _ _ _ _ _ _ _ => rfl⟩, rfl, rfl⟩
    have E_NothingLeft : ErP W K mg 27 "NothingLeft" := ⟨x1_NothingLeft, PySem.W.mg_of X G n_NothingLeft, ec9_NothingLeft, ec4_NothingLeft, ec8_NothingLeft, rfl⟩
    have S_BadActing : IsC W mg "BadActing" sub_BadActing := ⟨x_BadActing, PySem.W.mg_of X G n_BadActing, fun k b e => (match k, b, e with | 0, _, rfl => ⟨T_BoxError, ki_BadActing_BoxError⟩ | 1, _, rfl => ⟨T_BadPrime, ki_BadActing_BadPrime⟩ | 2, _, rfl => ⟨T_BadNumber, ki_BadActing_BadNumber⟩ | 3, _, rfl => ⟨T_BadShape, ki_BadActing_BadShape⟩ | 4, _, rfl => ⟨T_BadBox, ki_BadActing_BadBox⟩ | 5, _, rfl => ⟨T_BadFilling, ki_BadActing_BadFilling⟩ | 6, _, rfl => ⟨T_BadOrder, ki_BadActing_BadOrder⟩ | 7, _, rfl => ⟨T_BadSum, ki_BadActing_BadSum⟩ | 8, _, rfl => ⟨T_BadWord, ki_BadActing_BadWord⟩ | 9, _, rfl => ⟨T_TooMany, ki_BadActing_TooMany⟩ | 10, _, rfl => ⟨T_BadPowers, ki_BadActing_BadPowers⟩ | 11, _, rfl => ⟨T_BadCourse, ki_BadActing_BadCourse⟩ | 12, _, rfl => ⟨T_NotFree, ki_BadActing_NotFree⟩ | 13, _, rfl => ⟨T_NotTold, ki_BadActing_NotTold⟩ | 14, _, rfl => ⟨T_BadActing, ki_BadActing_BadActing⟩ | 15, _, rfl => ⟨T_BadRows, ki_BadActing_BadRows⟩ | 16, _, rfl => ⟨T_BadWay, ki_BadActing_BadWay⟩ | 17, _, rfl => ⟨T_BadLines, ki_BadActing_BadLines⟩ | 18, _, rfl => ⟨T_BadSpread, ki_BadActing_BadSpread⟩ | 19, _, rfl => ⟨T_BadCell, ki_BadActing_BadCell⟩ | 20, _, rfl => ⟨T_NotHere, ki_BadActing_NotHere⟩ | 21, _, rfl => ⟨T_NotAlike, ki_BadActing_NotAlike⟩ | 22, _, rfl => ⟨T_BadDeed, ki_BadActing_BadDeed⟩ | 23, _, rfl => ⟨T_BadLive, ki_BadActing_BadLive⟩ | 24, _, rfl => ⟨T_BadName, ki_BadActing_BadName⟩ | 25, _, rfl => ⟨T_BadText, ki_BadActing_BadText⟩ | 26, _, rfl => ⟨T_NoWatch, ki_BadActing_NoWatch⟩ | 27, _, rfl => ⟨T_NothingLeft, ki_BadActing_NothingLeft⟩ | (k + 28), _, e => by simp [sub_BadActing] at e), kn_BadActing⟩
    have S_BadBox : IsC W mg "BadBox" sub_BadBox := ⟨x_BadBox, PySem.W.mg_of X G n_BadBox, fun k b e => (match k, b, e with | 0, _, rfl => ⟨T_BoxError, ki_BadBox_BoxError⟩ | 1, _, rfl => ⟨T_BadPrime, ki_BadBox_BadPrime⟩ | 2, _, rfl => ⟨T_BadNumber, ki_BadBox_BadNumber⟩ | 3, _, rfl => ⟨T_BadShape, ki_BadBox_BadShape⟩ | 4, _, rfl => ⟨T_BadBox, ki_BadBox_BadBox⟩ | 5, _, rfl => ⟨T_BadFilling, ki_BadBox_BadFilling⟩ | 6, _, rfl => ⟨T_BadOrder, ki_BadBox_BadOrder⟩ | 7, _, rfl => ⟨T_BadSum, ki_BadBox_BadSum⟩ | 8, _, rfl => ⟨T_BadWord, ki_BadBox_BadWord⟩ | 9, _, rfl => ⟨T_TooMany, ki_BadBox_TooMany⟩ | 10, _, rfl => ⟨T_BadPowers, ki_BadBox_BadPowers⟩ | 11, _, rfl => ⟨T_BadCourse, ki_BadBox_BadCourse⟩ | 12, _, rfl => ⟨T_NotFree, ki_BadBox_NotFree⟩ | 13, _, rfl => ⟨T_NotTold, ki_BadBox_NotTold⟩ | 14, _, rfl => ⟨T_BadActing, ki_BadBox_BadActing⟩ | 15, _, rfl => ⟨T_BadRows, ki_BadBox_BadRows⟩ | 16, _, rfl => ⟨T_BadWay, ki_BadBox_BadWay⟩ | 17, _, rfl => ⟨T_BadLines, ki_BadBox_BadLines⟩ | 18, _, rfl => ⟨T_BadSpread, ki_BadBox_BadSpread⟩ | 19, _, rfl => ⟨T_BadCell, ki_BadBox_BadCell⟩ | 20, _, rfl => ⟨T_NotHere, ki_BadBox_NotHere⟩ | 21, _, rfl => ⟨T_NotAlike, ki_BadBox_NotAlike⟩ | 22, _, rfl => ⟨T_BadDeed, ki_BadBox_BadDeed⟩ | 23, _, rfl => ⟨T_BadLive, ki_BadBox_BadLive⟩ | 24, _, rfl => ⟨T_BadName, ki_BadBox_BadName⟩ | 25, _, rfl => ⟨T_BadText, ki_BadBox_BadText⟩ | 26, _, rfl => ⟨T_NoWatch, ki_BadBox_NoWatch⟩ | 27, _, rfl => ⟨T_NothingLeft, ki_BadBox_NothingLeft⟩ | (k + 28), _, e => by simp [sub_BadBox] at e), kn_BadBox⟩
    have S_BadCell : IsC W mg "BadCell" sub_BadCell := ⟨x_BadCell, PySem.W.mg_of X G n_BadCell, fun k b e => (match k, b, e with | 0, _, rfl => ⟨T_BoxError, ki_BadCell_BoxError⟩ | 1, _, rfl => ⟨T_BadPrime, ki_BadCell_BadPrime⟩ | 2, _, rfl => ⟨T_BadNumber, ki_BadCell_BadNumber⟩ | 3, _, rfl => ⟨T_BadShape, ki_BadCell_BadShape⟩ | 4, _, rfl => ⟨T_BadBox, ki_BadCell_BadBox⟩ | 5, _, rfl => ⟨T_BadFilling, ki_BadCell_BadFilling⟩ | 6, _, rfl => ⟨T_BadOrder, ki_BadCell_BadOrder⟩ | 7, _, rfl => ⟨T_BadSum, ki_BadCell_BadSum⟩ | 8, _, rfl => ⟨T_BadWord, ki_BadCell_BadWord⟩ | 9, _, rfl => ⟨T_TooMany, ki_BadCell_TooMany⟩ | 10, _, rfl => ⟨T_BadPowers, ki_BadCell_BadPowers⟩ | 11, _, rfl => ⟨T_BadCourse, ki_BadCell_BadCourse⟩ | 12, _, rfl => ⟨T_NotFree, ki_BadCell_NotFree⟩ | 13, _, rfl => ⟨T_NotTold, ki_BadCell_NotTold⟩ | 14, _, rfl => ⟨T_BadActing, ki_BadCell_BadActing⟩ | 15, _, rfl => ⟨T_BadRows, ki_BadCell_BadRows⟩ | 16, _, rfl => ⟨T_BadWay, ki_BadCell_BadWay⟩ | 17, _, rfl => ⟨T_BadLines, ki_BadCell_BadLines⟩ | 18, _, rfl => ⟨T_BadSpread, ki_BadCell_BadSpread⟩ | 19, _, rfl => ⟨T_BadCell, ki_BadCell_BadCell⟩ | 20, _, rfl => ⟨T_NotHere, ki_BadCell_NotHere⟩ | 21, _, rfl => ⟨T_NotAlike, ki_BadCell_NotAlike⟩ | 22, _, rfl => ⟨T_BadDeed, ki_BadCell_BadDeed⟩ | 23, _, rfl => ⟨T_BadLive, ki_BadCell_BadLive⟩ | 24, _, rfl => ⟨T_BadName, ki_BadCell_BadName⟩ | 25, _, rfl => ⟨T_BadText, ki_BadCell_BadText⟩ | 26, _, rfl => ⟨T_NoWatch, ki_BadCell_NoWatch⟩ | 27, _, rfl => ⟨T_NothingLeft, ki_BadCell_NothingLeft⟩ | (k + 28), _, e => by simp [sub_BadCell] at e), kn_BadCell⟩
    have S_BadCourse : IsC W mg "BadCourse" sub_BadCourse := ⟨x_BadCourse, PySem.W.mg_of X G n_BadCourse, fun k b e => (match k, b, e with | 0, _, rfl => ⟨T_BoxError, ki_BadCourse_BoxError⟩ | 1, _, rfl => ⟨T_BadPrime, ki_BadCourse_BadPrime⟩ | 2, _, rfl => ⟨T_BadNumber, ki_BadCourse_BadNumber⟩ | 3, _, rfl => ⟨T_BadShape, ki_BadCourse_BadShape⟩ | 4, _, rfl => ⟨T_BadBox, ki_BadCourse_BadBox⟩ | 5, _, rfl => ⟨T_BadFilling, ki_BadCourse_BadFilling⟩ | 6, _, rfl => ⟨T_BadOrder, ki_BadCourse_BadOrder⟩ | 7, _, rfl => ⟨T_BadSum, ki_BadCourse_BadSum⟩ | 8, _, rfl => ⟨T_BadWord, ki_BadCourse_BadWord⟩ | 9, _, rfl => ⟨T_TooMany, ki_BadCourse_TooMany⟩ | 10, _, rfl => ⟨T_BadPowers, ki_BadCourse_BadPowers⟩ | 11, _, rfl => ⟨T_BadCourse, ki_BadCourse_BadCourse⟩ | 12, _, rfl => ⟨T_NotFree, ki_BadCourse_NotFree⟩ | 13, _, rfl => ⟨T_NotTold, ki_BadCourse_NotTold⟩ | 14, _, rfl => ⟨T_BadActing, ki_BadCourse_BadActing⟩ | 15, _, rfl => ⟨T_BadRows, ki_BadCourse_BadRows⟩ | 16, _, rfl => ⟨T_BadWay, ki_BadCourse_BadWay⟩ | 17, _, rfl => ⟨T_BadLines, ki_BadCourse_BadLines⟩ | 18, _, rfl => ⟨T_BadSpread, ki_BadCourse_BadSpread⟩ | 19, _, rfl => ⟨T_BadCell, ki_BadCourse_BadCell⟩ | 20, _, rfl => ⟨T_NotHere, ki_BadCourse_NotHere⟩ | 21, _, rfl => ⟨T_NotAlike, ki_BadCourse_NotAlike⟩ | 22, _, rfl => ⟨T_BadDeed, ki_BadCourse_BadDeed⟩ | 23, _, rfl => ⟨T_BadLive, ki_BadCourse_BadLive⟩ | 24, _, rfl => ⟨T_BadName, ki_BadCourse_BadName⟩ | 25, _, rfl => ⟨T_BadText, ki_BadCourse_BadText⟩ | 26, _, rfl => ⟨T_NoWatch, ki_BadCourse_NoWatch⟩ | 27, _, rfl => ⟨T_NothingLeft, ki_BadCourse_NothingLeft⟩ | (k + 28), _, e => by simp [sub_BadCourse] at e), kn_BadCourse⟩
    have S_BadDeed : IsC W mg "BadDeed" sub_BadDeed := ⟨x_BadDeed, PySem.W.mg_of X G n_BadDeed, fun k b e => (match k, b, e with | 0, _, rfl => ⟨T_BoxError, ki_BadDeed_BoxError⟩ | 1, _, rfl => ⟨T_BadPrime, ki_BadDeed_BadPrime⟩ | 2, _, rfl => ⟨T_BadNumber, ki_BadDeed_BadNumber⟩ | 3, _, rfl => ⟨T_BadShape, ki_BadDeed_BadShape⟩ | 4, _, rfl => ⟨T_BadBox, ki_BadDeed_BadBox⟩ | 5, _, rfl => ⟨T_BadFilling, ki_BadDeed_BadFilling⟩ | 6, _, rfl => ⟨T_BadOrder, ki_BadDeed_BadOrder⟩ | 7, _, rfl => ⟨T_BadSum, ki_BadDeed_BadSum⟩ | 8, _, rfl => ⟨T_BadWord, ki_BadDeed_BadWord⟩ | 9, _, rfl => ⟨T_TooMany, ki_BadDeed_TooMany⟩ | 10, _, rfl => ⟨T_BadPowers, ki_BadDeed_BadPowers⟩ | 11, _, rfl => ⟨T_BadCourse, ki_BadDeed_BadCourse⟩ | 12, _, rfl => ⟨T_NotFree, ki_BadDeed_NotFree⟩ | 13, _, rfl => ⟨T_NotTold, ki_BadDeed_NotTold⟩ | 14, _, rfl => ⟨T_BadActing, ki_BadDeed_BadActing⟩ | 15, _, rfl => ⟨T_BadRows, ki_BadDeed_BadRows⟩ | 16, _, rfl => ⟨T_BadWay, ki_BadDeed_BadWay⟩ | 17, _, rfl => ⟨T_BadLines, ki_BadDeed_BadLines⟩ | 18, _, rfl => ⟨T_BadSpread, ki_BadDeed_BadSpread⟩ | 19, _, rfl => ⟨T_BadCell, ki_BadDeed_BadCell⟩ | 20, _, rfl => ⟨T_NotHere, ki_BadDeed_NotHere⟩ | 21, _, rfl => ⟨T_NotAlike, ki_BadDeed_NotAlike⟩ | 22, _, rfl => ⟨T_BadDeed, ki_BadDeed_BadDeed⟩ | 23, _, rfl => ⟨T_BadLive, ki_BadDeed_BadLive⟩ | 24, _, rfl => ⟨T_BadName, ki_BadDeed_BadName⟩ | 25, _, rfl => ⟨T_BadText, ki_BadDeed_BadText⟩ | 26, _, rfl => ⟨T_NoWatch, ki_BadDeed_NoWatch⟩ | 27, _, rfl => ⟨T_NothingLeft, ki_BadDeed_NothingLeft⟩ | (k + 28), _, e => by simp [sub_BadDeed] at e), kn_BadDeed⟩
    have S_BadFilling : IsC W mg "BadFilling" sub_BadFilling := ⟨x_BadFilling, PySem.W.mg_of X G n_BadFilling, fun k b e => (match k, b, e with | 0, _, rfl => ⟨T_BoxError, ki_BadFilling_BoxError⟩ | 1, _, rfl => ⟨T_BadPrime, ki_BadFilling_BadPrime⟩ | 2, _, rfl => ⟨T_BadNumber, ki_BadFilling_BadNumber⟩ | 3, _, rfl => ⟨T_BadShape, ki_BadFilling_BadShape⟩ | 4, _, rfl => ⟨T_BadBox, ki_BadFilling_BadBox⟩ | 5, _, rfl => ⟨T_BadFilling, ki_BadFilling_BadFilling⟩ | 6, _, rfl => ⟨T_BadOrder, ki_BadFilling_BadOrder⟩ | 7, _, rfl => ⟨T_BadSum, ki_BadFilling_BadSum⟩ | 8, _, rfl => ⟨T_BadWord, ki_BadFilling_BadWord⟩ | 9, _, rfl => ⟨T_TooMany, ki_BadFilling_TooMany⟩ | 10, _, rfl => ⟨T_BadPowers, ki_BadFilling_BadPowers⟩ | 11, _, rfl => ⟨T_BadCourse, ki_BadFilling_BadCourse⟩ | 12, _, rfl => ⟨T_NotFree, ki_BadFilling_NotFree⟩ | 13, _, rfl => ⟨T_NotTold, ki_BadFilling_NotTold⟩ | 14, _, rfl => ⟨T_BadActing, ki_BadFilling_BadActing⟩ | 15, _, rfl => ⟨T_BadRows, ki_BadFilling_BadRows⟩ | 16, _, rfl => ⟨T_BadWay, ki_BadFilling_BadWay⟩ | 17, _, rfl => ⟨T_BadLines, ki_BadFilling_BadLines⟩ | 18, _, rfl => ⟨T_BadSpread, ki_BadFilling_BadSpread⟩ | 19, _, rfl => ⟨T_BadCell, ki_BadFilling_BadCell⟩ | 20, _, rfl => ⟨T_NotHere, ki_BadFilling_NotHere⟩ | 21, _, rfl => ⟨T_NotAlike, ki_BadFilling_NotAlike⟩ | 22, _, rfl => ⟨T_BadDeed, ki_BadFilling_BadDeed⟩ | 23, _, rfl => ⟨T_BadLive, ki_BadFilling_BadLive⟩ | 24, _, rfl => ⟨T_BadName, ki_BadFilling_BadName⟩ | 25, _, rfl => ⟨T_BadText, ki_BadFilling_BadText⟩ | 26, _, rfl => ⟨T_NoWatch, ki_BadFilling_NoWatch⟩ | 27, _, rfl => ⟨T_NothingLeft, ki_BadFilling_NothingLeft⟩ | (k + 28), _, e => by simp [sub_BadFilling] at e), kn_BadFilling⟩
    have S_BadLines : IsC W mg "BadLines" sub_BadLines := ⟨x_BadLines, PySem.W.mg_of X G n_BadLines, fun k b e => (match k, b, e with | 0, _, rfl => ⟨T_BoxError, ki_BadLines_BoxError⟩ | 1, _, rfl => ⟨T_BadPrime, ki_BadLines_BadPrime⟩ | 2, _, rfl => ⟨T_BadNumber, ki_BadLines_BadNumber⟩ | 3, _, rfl => ⟨T_BadShape, ki_BadLines_BadShape⟩ | 4, _, rfl => ⟨T_BadBox, ki_BadLines_BadBox⟩ | 5, _, rfl => ⟨T_BadFilling, ki_BadLines_BadFilling⟩ | 6, _, rfl => ⟨T_BadOrder, ki_BadLines_BadOrder⟩ | 7, _, rfl => ⟨T_BadSum, ki_BadLines_BadSum⟩ | 8, _, rfl => ⟨T_BadWord, ki_BadLines_BadWord⟩ | 9, _, rfl => ⟨T_TooMany, ki_BadLines_TooMany⟩ | 10, _, rfl => ⟨T_BadPowers, ki_BadLines_BadPowers⟩ | 11, _, rfl => ⟨T_BadCourse, ki_BadLines_BadCourse⟩ | 12, _, rfl => ⟨T_NotFree, ki_BadLines_NotFree⟩ | 13, _, rfl => ⟨T_NotTold, ki_BadLines_NotTold⟩ | 14, _, rfl => ⟨T_BadActing, ki_BadLines_BadActing⟩ | 15, _, rfl => ⟨T_BadRows, ki_BadLines_BadRows⟩ | 16, _, rfl => ⟨T_BadWay, ki_BadLines_BadWay⟩ | 17, _, rfl => ⟨T_BadLines, ki_BadLines_BadLines⟩ | 18, _, rfl => ⟨T_BadSpread, ki_BadLines_BadSpread⟩ | 19, _, rfl => ⟨T_BadCell, ki_BadLines_BadCell⟩ | 20, _, rfl => ⟨T_NotHere, ki_BadLines_NotHere⟩ | 21, _, rfl => ⟨T_NotAlike, ki_BadLines_NotAlike⟩ | 22, _, rfl => ⟨T_BadDeed, ki_BadLines_BadDeed⟩ | 23, _, rfl => ⟨T_BadLive, ki_BadLines_BadLive⟩ | 24, _, rfl => ⟨T_BadName, ki_BadLines_BadName⟩ | 25, _, rfl => ⟨T_BadText, ki_BadLines_BadText⟩ | 26, _, rfl => ⟨T_NoWatch, ki_BadLines_NoWatch⟩ | 27, _, rfl => ⟨T_NothingLeft, ki_BadLines_NothingLeft⟩ | (k + 28), _, e => by simp [sub_BadLines] at e), kn_BadLines⟩
    have S_BadLive : IsC W mg "BadLive" sub_BadLive := ⟨x_BadLive, PySem.W.mg_of X G n_BadLive, fun k b e => (match k, b, e with | 0, _, rfl => ⟨T_BoxError, ki_BadLive_BoxError⟩ | 1, _, rfl => ⟨T_BadPrime, ki_BadLive_BadPrime⟩ | 2, _, rfl => ⟨T_BadNumber, ki_BadLive_BadNumber⟩ | 3, _, rfl => ⟨T_BadShape, ki_BadLive_BadShape⟩ | 4, _, rfl => ⟨T_BadBox, ki_BadLive_BadBox⟩ | 5, _, rfl => ⟨T_BadFilling, ki_BadLive_BadFilling⟩ | 6, _, rfl => ⟨T_BadOrder, ki_BadLive_BadOrder⟩ | 7, _, rfl => ⟨T_BadSum, ki_BadLive_BadSum⟩ | 8, _, rfl => ⟨T_BadWord, ki_BadLive_BadWord⟩ | 9, _, rfl => ⟨T_TooMany, ki_BadLive_TooMany⟩ | 10, _, rfl => ⟨T_BadPowers, ki_BadLive_BadPowers⟩ | 11, _, rfl => ⟨T_BadCourse, ki_BadLive_BadCourse⟩ | 12, _, rfl => ⟨T_NotFree, ki_BadLive_NotFree⟩ | 13, _, rfl => ⟨T_NotTold, ki_BadLive_NotTold⟩ | 14, _, rfl => ⟨T_BadActing, ki_BadLive_BadActing⟩ | 15, _, rfl => ⟨T_BadRows, ki_BadLive_BadRows⟩ | 16, _, rfl => ⟨T_BadWay, ki_BadLive_BadWay⟩ | 17, _, rfl => ⟨T_BadLines, ki_BadLive_BadLines⟩ | 18, _, rfl => ⟨T_BadSpread, ki_BadLive_BadSpread⟩ | 19, _, rfl => ⟨T_BadCell, ki_BadLive_BadCell⟩ | 20, _, rfl => ⟨T_NotHere, ki_BadLive_NotHere⟩ | 21, _, rfl => ⟨T_NotAlike, ki_BadLive_NotAlike⟩ | 22, _, rfl => ⟨T_BadDeed, ki_BadLive_BadDeed⟩ | 23, _, rfl => ⟨T_BadLive, ki_BadLive_BadLive⟩ | 24, _, rfl => ⟨T_BadName, ki_BadLive_BadName⟩ | 25, _, rfl => ⟨T_BadText, ki_BadLive_BadText⟩ | 26, _, rfl => ⟨T_NoWatch, ki_BadLive_NoWatch⟩ | 27, _, rfl => ⟨T_NothingLeft, ki_BadLive_NothingLeft⟩ | (k + 28), _, e => by simp [sub_BadLive] at e), kn_BadLive⟩
    have S_BadName : IsC W mg "BadName" sub_BadName := ⟨x_BadName, PySem.W.mg_of X G n_BadName, fun k b e => (match k, b, e with | 0, _, rfl => ⟨T_BoxError, ki_BadName_BoxError⟩ | 1, _, rfl => ⟨T_BadPrime, ki_BadName_BadPrime⟩ | 2, _, rfl => ⟨T_BadNumber, ki_BadName_BadNumber⟩ | 3, _, rfl => ⟨T_BadShape, ki_BadName_BadShape⟩ | 4, _, rfl => ⟨T_BadBox, ki_BadName_BadBox⟩ | 5, _, rfl => ⟨T_BadFilling, ki_BadName_BadFilling⟩ | 6, _, rfl => ⟨T_BadOrder, ki_BadName_BadOrder⟩ | 7, _, rfl => ⟨T_BadSum, ki_BadName_BadSum⟩ | 8, _, rfl => ⟨T_BadWord, ki_BadName_BadWord⟩ | 9, _, rfl => ⟨T_TooMany, ki_BadName_TooMany⟩ | 10, _, rfl => ⟨T_BadPowers, ki_BadName_BadPowers⟩ | 11, _, rfl => ⟨T_BadCourse, ki_BadName_BadCourse⟩ | 12, _, rfl => ⟨T_NotFree, ki_BadName_NotFree⟩ | 13, _, rfl => ⟨T_NotTold, ki_BadName_NotTold⟩ | 14, _, rfl => ⟨T_BadActing, ki_BadName_BadActing⟩ | 15, _, rfl => ⟨T_BadRows, ki_BadName_BadRows⟩ | 16, _, rfl => ⟨T_BadWay, ki_BadName_BadWay⟩ | 17, _, rfl => ⟨T_BadLines, ki_BadName_BadLines⟩ | 18, _, rfl => ⟨T_BadSpread, ki_BadName_BadSpread⟩ | 19, _, rfl => ⟨T_BadCell, ki_BadName_BadCell⟩ | 20, _, rfl => ⟨T_NotHere, ki_BadName_NotHere⟩ | 21, _, rfl => ⟨T_NotAlike, ki_BadName_NotAlike⟩ | 22, _, rfl => ⟨T_BadDeed, ki_BadName_BadDeed⟩ | 23, _, rfl => ⟨T_BadLive, ki_BadName_BadLive⟩ | 24, _, rfl => ⟨T_BadName, ki_BadName_BadName⟩ | 25, _, rfl => ⟨T_BadText, ki_BadName_BadText⟩ | 26, _, rfl => ⟨T_NoWatch, ki_BadName_NoWatch⟩ | 27, _, rfl => ⟨T_NothingLeft, ki_BadName_NothingLeft⟩ | (k + 28), _, e => by simp [sub_BadName] at e), kn_BadName⟩
    have S_BadNumber : IsC W mg "BadNumber" sub_BadNumber := ⟨x_BadNumber, PySem.W.mg_of X G n_BadNumber, fun k b e => (match k, b, e with | 0, _, rfl => ⟨T_BoxError, ki_BadNumber_BoxError⟩ | 1, _, rfl => ⟨T_BadPrime, ki_BadNumber_BadPrime⟩ | 2, _, rfl => ⟨T_BadNumber, ki_BadNumber_BadNumber⟩ | 3, _, rfl => ⟨T_BadShape, ki_BadNumber_BadShape⟩ | 4, _, rfl => ⟨T_BadBox, ki_BadNumber_BadBox⟩ | 5, _, rfl => ⟨T_BadFilling, ki_BadNumber_BadFilling⟩ | 6, _, rfl => ⟨T_BadOrder, ki_BadNumber_BadOrder⟩ | 7, _, rfl => ⟨T_BadSum, ki_BadNumber_BadSum⟩ | 8, _, rfl => ⟨T_BadWord, ki_BadNumber_BadWord⟩ | 9, _, rfl => ⟨T_TooMany, ki_BadNumber_TooMany⟩ | 10, _, rfl => ⟨T_BadPowers, ki_BadNumber_BadPowers⟩ | 11, _, rfl => ⟨T_BadCourse, ki_BadNumber_BadCourse⟩ | 12, _, rfl => ⟨T_NotFree, ki_BadNumber_NotFree⟩ | 13, _, rfl => ⟨T_NotTold, ki_BadNumber_NotTold⟩ | 14, _, rfl => ⟨T_BadActing, ki_BadNumber_BadActing⟩ | 15, _, rfl => ⟨T_BadRows, ki_BadNumber_BadRows⟩ | 16, _, rfl => ⟨T_BadWay, ki_BadNumber_BadWay⟩ | 17, _, rfl => ⟨T_BadLines, ki_BadNumber_BadLines⟩ | 18, _, rfl => ⟨T_BadSpread, ki_BadNumber_BadSpread⟩ | 19, _, rfl => ⟨T_BadCell, ki_BadNumber_BadCell⟩ | 20, _, rfl => ⟨T_NotHere, ki_BadNumber_NotHere⟩ | 21, _, rfl => ⟨T_NotAlike, ki_BadNumber_NotAlike⟩ | 22, _, rfl => ⟨T_BadDeed, ki_BadNumber_BadDeed⟩ | 23, _, rfl => ⟨T_BadLive, ki_BadNumber_BadLive⟩ | 24, _, rfl => ⟨T_BadName, ki_BadNumber_BadName⟩ | 25, _, rfl => ⟨T_BadText, ki_BadNumber_BadText⟩ | 26, _, rfl => ⟨T_NoWatch, ki_BadNumber_NoWatch⟩ | 27, _, rfl => ⟨T_NothingLeft, ki_BadNumber_NothingLeft⟩ | (k + 28), _, e => by simp [sub_BadNumber] at e), kn_BadNumber⟩
    have S_BadOrder : IsC W mg "BadOrder" sub_BadOrder := ⟨x_BadOrder, PySem.W.mg_of X G n_BadOrder, fun k b e => (match k, b, e with | 0, _, rfl => ⟨T_BoxError, ki_BadOrder_BoxError⟩ | 1, _, rfl => ⟨T_BadPrime, ki_BadOrder_BadPrime⟩ | 2, _, rfl => ⟨T_BadNumber, ki_BadOrder_BadNumber⟩ | 3, _, rfl => ⟨T_BadShape, ki_BadOrder_BadShape⟩ | 4, _, rfl => ⟨T_BadBox, ki_BadOrder_BadBox⟩ | 5, _, rfl => ⟨T_BadFilling, ki_BadOrder_BadFilling⟩ | 6, _, rfl => ⟨T_BadOrder, ki_BadOrder_BadOrder⟩ | 7, _, rfl => ⟨T_BadSum, ki_BadOrder_BadSum⟩ | 8, _, rfl => ⟨T_BadWord, ki_BadOrder_BadWord⟩ | 9, _, rfl => ⟨T_TooMany, ki_BadOrder_TooMany⟩ | 10, _, rfl => ⟨T_BadPowers, ki_BadOrder_BadPowers⟩ | 11, _, rfl => ⟨T_BadCourse, ki_BadOrder_BadCourse⟩ | 12, _, rfl => ⟨T_NotFree, ki_BadOrder_NotFree⟩ | 13, _, rfl => ⟨T_NotTold, ki_BadOrder_NotTold⟩ | 14, _, rfl => ⟨T_BadActing, ki_BadOrder_BadActing⟩ | 15, _, rfl => ⟨T_BadRows, ki_BadOrder_BadRows⟩ | 16, _, rfl => ⟨T_BadWay, ki_BadOrder_BadWay⟩ | 17, _, rfl => ⟨T_BadLines, ki_BadOrder_BadLines⟩ | 18, _, rfl => ⟨T_BadSpread, ki_BadOrder_BadSpread⟩ | 19, _, rfl => ⟨T_BadCell, ki_BadOrder_BadCell⟩ | 20, _, rfl => ⟨T_NotHere, ki_BadOrder_NotHere⟩ | 21, _, rfl => ⟨T_NotAlike, ki_BadOrder_NotAlike⟩ | 22, _, rfl => ⟨T_BadDeed, ki_BadOrder_BadDeed⟩ | 23, _, rfl => ⟨T_BadLive, ki_BadOrder_BadLive⟩ | 24, _, rfl => ⟨T_BadName, ki_BadOrder_BadName⟩ | 25, _, rfl => ⟨T_BadText, ki_BadOrder_BadText⟩ | 26, _, rfl => ⟨T_NoWatch, ki_BadOrder_NoWatch⟩ | 27, _, rfl => ⟨T_NothingLeft, ki_BadOrder_NothingLeft⟩ | (k + 28), _, e => by simp [sub_BadOrder] at e), kn_BadOrder⟩
    have S_BadPowers : IsC W mg "BadPowers" sub_BadPowers := ⟨x_BadPowers, PySem.W.mg_of X G n_BadPowers, fun k b e => (match k, b, e with | 0, _, rfl => ⟨T_BoxError, ki_BadPowers_BoxError⟩ | 1, _, rfl => ⟨T_BadPrime, ki_BadPowers_BadPrime⟩ | 2, _, rfl => ⟨T_BadNumber, ki_BadPowers_BadNumber⟩ | 3, _, rfl => ⟨T_BadShape, ki_BadPowers_BadShape⟩ | 4, _, rfl => ⟨T_BadBox, ki_BadPowers_BadBox⟩ | 5, _, rfl => ⟨T_BadFilling, ki_BadPowers_BadFilling⟩ | 6, _, rfl => ⟨T_BadOrder, ki_BadPowers_BadOrder⟩ | 7, _, rfl => ⟨T_BadSum, ki_BadPowers_BadSum⟩ | 8, _, rfl => ⟨T_BadWord, ki_BadPowers_BadWord⟩ | 9, _, rfl => ⟨T_TooMany, ki_BadPowers_TooMany⟩ | 10, _, rfl => ⟨T_BadPowers, ki_BadPowers_BadPowers⟩ | 11, _, rfl => ⟨T_BadCourse, ki_BadPowers_BadCourse⟩ | 12, _, rfl => ⟨T_NotFree, ki_BadPowers_NotFree⟩ | 13, _, rfl => ⟨T_NotTold, ki_BadPowers_NotTold⟩ | 14, _, rfl => ⟨T_BadActing, ki_BadPowers_BadActing⟩ | 15, _, rfl => ⟨T_BadRows, ki_BadPowers_BadRows⟩ | 16, _, rfl => ⟨T_BadWay, ki_BadPowers_BadWay⟩ | 17, _, rfl => ⟨T_BadLines, ki_BadPowers_BadLines⟩ | 18, _, rfl => ⟨T_BadSpread, ki_BadPowers_BadSpread⟩ | 19, _, rfl => ⟨T_BadCell, ki_BadPowers_BadCell⟩ | 20, _, rfl => ⟨T_NotHere, ki_BadPowers_NotHere⟩ | 21, _, rfl => ⟨T_NotAlike, ki_BadPowers_NotAlike⟩ | 22, _, rfl => ⟨T_BadDeed, ki_BadPowers_BadDeed⟩ | 23, _, rfl => ⟨T_BadLive, ki_BadPowers_BadLive⟩ | 24, _, rfl => ⟨T_BadName, ki_BadPowers_BadName⟩ | 25, _, rfl => ⟨T_BadText, ki_BadPowers_BadText⟩ | 26, _, rfl => ⟨T_NoWatch, ki_BadPowers_NoWatch⟩ | 27, _, rfl => ⟨T_NothingLeft, ki_BadPowers_NothingLeft⟩ | (k + 28), _, e => by simp [sub_BadPowers] at e), kn_BadPowers⟩
    have S_BadPrime : IsC W mg "BadPrime" sub_BadPrime := ⟨x_BadPrime, PySem.W.mg_of X G n_BadPrime, fun k b e => (match k, b, e with | 0, _, rfl => ⟨T_BoxError, ki_BadPrime_BoxError⟩ | 1, _, rfl => ⟨T_BadPrime, ki_BadPrime_BadPrime⟩ | 2, _, rfl => ⟨T_BadNumber, ki_BadPrime_BadNumber⟩ | 3, _, rfl => ⟨T_BadShape, ki_BadPrime_BadShape⟩ | 4, _, rfl => ⟨T_BadBox, ki_BadPrime_BadBox⟩ | 5, _, rfl => ⟨T_BadFilling, ki_BadPrime_BadFilling⟩ | 6, _, rfl => ⟨T_BadOrder, ki_BadPrime_BadOrder⟩ | 7, _, rfl => ⟨T_BadSum, ki_BadPrime_BadSum⟩ | 8, _, rfl => ⟨T_BadWord, ki_BadPrime_BadWord⟩ | 9, _, rfl => ⟨T_TooMany, ki_BadPrime_TooMany⟩ | 10, _, rfl => ⟨T_BadPowers, ki_BadPrime_BadPowers⟩ | 11, _, rfl => ⟨T_BadCourse, ki_BadPrime_BadCourse⟩ | 12, _, rfl => ⟨T_NotFree, ki_BadPrime_NotFree⟩ | 13, _, rfl => ⟨T_NotTold, ki_BadPrime_NotTold⟩ | 14, _, rfl => ⟨T_BadActing, ki_BadPrime_BadActing⟩ | 15, _, rfl => ⟨T_BadRows, ki_BadPrime_BadRows⟩ | 16, _, rfl => ⟨T_BadWay, ki_BadPrime_BadWay⟩ | 17, _, rfl => ⟨T_BadLines, ki_BadPrime_BadLines⟩ | 18, _, rfl => ⟨T_BadSpread, ki_BadPrime_BadSpread⟩ | 19, _, rfl => ⟨T_BadCell, ki_BadPrime_BadCell⟩ | 20, _, rfl => ⟨T_NotHere, ki_BadPrime_NotHere⟩ | 21, _, rfl => ⟨T_NotAlike, ki_BadPrime_NotAlike⟩ | 22, _, rfl => ⟨T_BadDeed, ki_BadPrime_BadDeed⟩ | 23, _, rfl => ⟨T_BadLive, ki_BadPrime_BadLive⟩ | 24, _, rfl => ⟨T_BadName, ki_BadPrime_BadName⟩ | 25, _, rfl => ⟨T_BadText, ki_BadPrime_BadText⟩ | 26, _, rfl => ⟨T_NoWatch, ki_BadPrime_NoWatch⟩ | 27, _, rfl => ⟨T_NothingLeft, ki_BadPrime_NothingLeft⟩ | (k + 28), _, e => by simp [sub_BadPrime] at e), kn_BadPrime⟩
    have S_BadRows : IsC W mg "BadRows" sub_BadRows := ⟨x_BadRows, PySem.W.mg_of X G n_BadRows, fun k b e => (match k, b, e with | 0, _, rfl => ⟨T_BoxError, ki_BadRows_BoxError⟩ | 1, _, rfl => ⟨T_BadPrime, ki_BadRows_BadPrime⟩ | 2, _, rfl => ⟨T_BadNumber, ki_BadRows_BadNumber⟩ | 3, _, rfl => ⟨T_BadShape, ki_BadRows_BadShape⟩ | 4, _, rfl => ⟨T_BadBox, ki_BadRows_BadBox⟩ | 5, _, rfl => ⟨T_BadFilling, ki_BadRows_BadFilling⟩ | 6, _, rfl => ⟨T_BadOrder, ki_BadRows_BadOrder⟩ | 7, _, rfl => ⟨T_BadSum, ki_BadRows_BadSum⟩ | 8, _, rfl => ⟨T_BadWord, ki_BadRows_BadWord⟩ | 9, _, rfl => ⟨T_TooMany, ki_BadRows_TooMany⟩ | 10, _, rfl => ⟨T_BadPowers, ki_BadRows_BadPowers⟩ | 11, _, rfl => ⟨T_BadCourse, ki_BadRows_BadCourse⟩ | 12, _, rfl => ⟨T_NotFree, ki_BadRows_NotFree⟩ | 13, _, rfl => ⟨T_NotTold, ki_BadRows_NotTold⟩ | 14, _, rfl => ⟨T_BadActing, ki_BadRows_BadActing⟩ | 15, _, rfl => ⟨T_BadRows, ki_BadRows_BadRows⟩ | 16, _, rfl => ⟨T_BadWay, ki_BadRows_BadWay⟩ | 17, _, rfl => ⟨T_BadLines, ki_BadRows_BadLines⟩ | 18, _, rfl => ⟨T_BadSpread, ki_BadRows_BadSpread⟩ | 19, _, rfl => ⟨T_BadCell, ki_BadRows_BadCell⟩ | 20, _, rfl => ⟨T_NotHere, ki_BadRows_NotHere⟩ | 21, _, rfl => ⟨T_NotAlike, ki_BadRows_NotAlike⟩ | 22, _, rfl => ⟨T_BadDeed, ki_BadRows_BadDeed⟩ | 23, _, rfl => ⟨T_BadLive, ki_BadRows_BadLive⟩ | 24, _, rfl => ⟨T_BadName, ki_BadRows_BadName⟩ | 25, _, rfl => ⟨T_BadText, ki_BadRows_BadText⟩ | 26, _, rfl => ⟨T_NoWatch, ki_BadRows_NoWatch⟩ | 27, _, rfl => ⟨T_NothingLeft, ki_BadRows_NothingLeft⟩ | (k + 28), _, e => by simp [sub_BadRows] at e), kn_BadRows⟩
    have S_BadShape : IsC W mg "BadShape" sub_BadShape := ⟨x_BadShape, PySem.W.mg_of X G n_BadShape, fun k b e => (match k, b, e with | 0, _, rfl => ⟨T_BoxError, ki_BadShape_BoxError⟩ | 1, _, rfl => ⟨T_BadPrime, ki_BadShape_BadPrime⟩ | 2, _, rfl => ⟨T_BadNumber, ki_BadShape_BadNumber⟩ | 3, _, rfl => ⟨T_BadShape, ki_BadShape_BadShape⟩ | 4, _, rfl => ⟨T_BadBox, ki_BadShape_BadBox⟩ | 5, _, rfl => ⟨T_BadFilling, ki_BadShape_BadFilling⟩ | 6, _, rfl => ⟨T_BadOrder, ki_BadShape_BadOrder⟩ | 7, _, rfl => ⟨T_BadSum, ki_BadShape_BadSum⟩ | 8, _, rfl => ⟨T_BadWord, ki_BadShape_BadWord⟩ | 9, _, rfl => ⟨T_TooMany, ki_BadShape_TooMany⟩ | 10, _, rfl => ⟨T_BadPowers, ki_BadShape_BadPowers⟩ | 11, _, rfl => ⟨T_BadCourse, ki_BadShape_BadCourse⟩ | 12, _, rfl => ⟨T_NotFree, ki_BadShape_NotFree⟩ | 13, _, rfl => ⟨T_NotTold, ki_BadShape_NotTold⟩ | 14, _, rfl => ⟨T_BadActing, ki_BadShape_BadActing⟩ | 15, _, rfl => ⟨T_BadRows, ki_BadShape_BadRows⟩ | 16, _, rfl => ⟨T_BadWay, ki_BadShape_BadWay⟩ | 17, _, rfl => ⟨T_BadLines, ki_BadShape_BadLines⟩ | 18, _, rfl => ⟨T_BadSpread, ki_BadShape_BadSpread⟩ | 19, _, rfl => ⟨T_BadCell, ki_BadShape_BadCell⟩ | 20, _, rfl => ⟨T_NotHere, ki_BadShape_NotHere⟩ | 21, _, rfl => ⟨T_NotAlike, ki_BadShape_NotAlike⟩ | 22, _, rfl => ⟨T_BadDeed, ki_BadShape_BadDeed⟩ | 23, _, rfl => ⟨T_BadLive, ki_BadShape_BadLive⟩ | 24, _, rfl => ⟨T_BadName, ki_BadShape_BadName⟩ | 25, _, rfl => ⟨T_BadText, ki_BadShape_BadText⟩ | 26, _, rfl => ⟨T_NoWatch, ki_BadShape_NoWatch⟩ | 27, _, rfl => ⟨T_NothingLeft, ki_BadShape_NothingLeft⟩ | (k + 28), _, e => by simp [sub_BadShape] at e), kn_BadShape⟩
    have S_BadSpread : IsC W mg "BadSpread" sub_BadSpread := ⟨x_BadSpread, PySem.W.mg_of X G n_BadSpread, fun k b e => (match k, b, e with | 0, _, rfl => ⟨T_BoxError, ki_BadSpread_BoxError⟩ | 1, _, rfl => ⟨T_BadPrime, ki_BadSpread_BadPrime⟩ | 2, _, rfl => ⟨T_BadNumber, ki_BadSpread_BadNumber⟩ | 3, _, rfl => ⟨T_BadShape, ki_BadSpread_BadShape⟩ | 4, _, rfl => ⟨T_BadBox, ki_BadSpread_BadBox⟩ | 5, _, rfl => ⟨T_BadFilling, ki_BadSpread_BadFilling⟩ | 6, _, rfl => ⟨T_BadOrder, ki_BadSpread_BadOrder⟩ | 7, _, rfl => ⟨T_BadSum, ki_BadSpread_BadSum⟩ | 8, _, rfl => ⟨T_BadWord, ki_BadSpread_BadWord⟩ | 9, _, rfl => ⟨T_TooMany, ki_BadSpread_TooMany⟩ | 10, _, rfl => ⟨T_BadPowers, ki_BadSpread_BadPowers⟩ | 11, _, rfl => ⟨T_BadCourse, ki_BadSpread_BadCourse⟩ | 12, _, rfl => ⟨T_NotFree, ki_BadSpread_NotFree⟩ | 13, _, rfl => ⟨T_NotTold, ki_BadSpread_NotTold⟩ | 14, _, rfl => ⟨T_BadActing, ki_BadSpread_BadActing⟩ | 15, _, rfl => ⟨T_BadRows, ki_BadSpread_BadRows⟩ | 16, _, rfl => ⟨T_BadWay, ki_BadSpread_BadWay⟩ | 17, _, rfl => ⟨T_BadLines, ki_BadSpread_BadLines⟩ | 18, _, rfl => ⟨T_BadSpread, ki_BadSpread_BadSpread⟩ | 19, _, rfl => ⟨T_BadCell, ki_BadSpread_BadCell⟩ | 20, _, rfl => ⟨T_NotHere, ki_BadSpread_NotHere⟩ | 21, _, rfl => ⟨T_NotAlike, ki_BadSpread_NotAlike⟩ | 22, _, rfl => ⟨T_BadDeed, ki_BadSpread_BadDeed⟩ | 23, _, rfl => ⟨T_BadLive, ki_BadSpread_BadLive⟩ | 24, _, rfl => ⟨T_BadName, ki_BadSpread_BadName⟩ | 25, _, rfl => ⟨T_BadText, ki_BadSpread_BadText⟩ | 26, _, rfl => ⟨T_NoWatch, ki_BadSpread_NoWatch⟩ | 27, _, rfl => ⟨T_NothingLeft, ki_BadSpread_NothingLeft⟩ | (k + 28), _, e => by simp [sub_BadSpread] at e), kn_BadSpread⟩
    have S_BadSum : IsC W mg "BadSum" sub_BadSum := ⟨x_BadSum, PySem.W.mg_of X G n_BadSum, fun k b e => (match k, b, e with | 0, _, rfl => ⟨T_BoxError, ki_BadSum_BoxError⟩ | 1, _, rfl => ⟨T_BadPrime, ki_BadSum_BadPrime⟩ | 2, _, rfl => ⟨T_BadNumber, ki_BadSum_BadNumber⟩ | 3, _, rfl => ⟨T_BadShape, ki_BadSum_BadShape⟩ | 4, _, rfl => ⟨T_BadBox, ki_BadSum_BadBox⟩ | 5, _, rfl => ⟨T_BadFilling, ki_BadSum_BadFilling⟩ | 6, _, rfl => ⟨T_BadOrder, ki_BadSum_BadOrder⟩ | 7, _, rfl => ⟨T_BadSum, ki_BadSum_BadSum⟩ | 8, _, rfl => ⟨T_BadWord, ki_BadSum_BadWord⟩ | 9, _, rfl => ⟨T_TooMany, ki_BadSum_TooMany⟩ | 10, _, rfl => ⟨T_BadPowers, ki_BadSum_BadPowers⟩ | 11, _, rfl => ⟨T_BadCourse, ki_BadSum_BadCourse⟩ | 12, _, rfl => ⟨T_NotFree, ki_BadSum_NotFree⟩ | 13, _, rfl => ⟨T_NotTold, ki_BadSum_NotTold⟩ | 14, _, rfl => ⟨T_BadActing, ki_BadSum_BadActing⟩ | 15, _, rfl => ⟨T_BadRows, ki_BadSum_BadRows⟩ | 16, _, rfl => ⟨T_BadWay, ki_BadSum_BadWay⟩ | 17, _, rfl => ⟨T_BadLines, ki_BadSum_BadLines⟩ | 18, _, rfl => ⟨T_BadSpread, ki_BadSum_BadSpread⟩ | 19, _, rfl => ⟨T_BadCell, ki_BadSum_BadCell⟩ | 20, _, rfl => ⟨T_NotHere, ki_BadSum_NotHere⟩ | 21, _, rfl => ⟨T_NotAlike, ki_BadSum_NotAlike⟩ | 22, _, rfl => ⟨T_BadDeed, ki_BadSum_BadDeed⟩ | 23, _, rfl => ⟨T_BadLive, ki_BadSum_BadLive⟩ | 24, _, rfl => ⟨T_BadName, ki_BadSum_BadName⟩ | 25, _, rfl => ⟨T_BadText, ki_BadSum_BadText⟩ | 26, _, rfl => ⟨T_NoWatch, ki_BadSum_NoWatch⟩ | 27, _, rfl => ⟨T_NothingLeft, ki_BadSum_NothingLeft⟩ | (k + 28), _, e => by simp [sub_BadSum] at e), kn_BadSum⟩
    have S_BadText : IsC W mg "BadText" sub_BadText := ⟨x_BadText, PySem.W.mg_of X G n_BadText, fun k b e => (match k, b, e with | 0, _, rfl => ⟨T_BoxError, ki_BadText_BoxError⟩ | 1, _, rfl => ⟨T_BadPrime, ki_BadText_BadPrime⟩ | 2, _, rfl => ⟨T_BadNumber, ki_BadText_BadNumber⟩ | 3, _, rfl => ⟨T_BadShape, ki_BadText_BadShape⟩ | 4, _, rfl => ⟨T_BadBox, ki_BadText_BadBox⟩ | 5, _, rfl => ⟨T_BadFilling, ki_BadText_BadFilling⟩ | 6, _, rfl => ⟨T_BadOrder, ki_BadText_BadOrder⟩ | 7, _, rfl => ⟨T_BadSum, ki_BadText_BadSum⟩ | 8, _, rfl => ⟨T_BadWord, ki_BadText_BadWord⟩ | 9, _, rfl => ⟨T_TooMany, ki_BadText_TooMany⟩ | 10, _, rfl => ⟨T_BadPowers, ki_BadText_BadPowers⟩ | 11, _, rfl => ⟨T_BadCourse, ki_BadText_BadCourse⟩ | 12, _, rfl => ⟨T_NotFree, ki_BadText_NotFree⟩ | 13, _, rfl => ⟨T_NotTold, ki_BadText_NotTold⟩ | 14, _, rfl => ⟨T_BadActing, ki_BadText_BadActing⟩ | 15, _, rfl => ⟨T_BadRows, ki_BadText_BadRows⟩ | 16, _, rfl => ⟨T_BadWay, ki_BadText_BadWay⟩ | 17, _, rfl => ⟨T_BadLines, ki_BadText_BadLines⟩ | 18, _, rfl => ⟨T_BadSpread, ki_BadText_BadSpread⟩ | 19, _, rfl => ⟨T_BadCell, ki_BadText_BadCell⟩ | 20, _, rfl => ⟨T_NotHere, ki_BadText_NotHere⟩ | 21, _, rfl => ⟨T_NotAlike, ki_BadText_NotAlike⟩ | 22, _, rfl => ⟨T_BadDeed, ki_BadText_BadDeed⟩ | 23, _, rfl => ⟨T_BadLive, ki_BadText_BadLive⟩ | 24, _, rfl => ⟨T_BadName, ki_BadText_BadName⟩ | 25, _, rfl => ⟨T_BadText, ki_BadText_BadText⟩ | 26, _, rfl => ⟨T_NoWatch, ki_BadText_NoWatch⟩ | 27, _, rfl => ⟨T_NothingLeft, ki_BadText_NothingLeft⟩ | (k + 28), _, e => by simp [sub_BadText] at e), kn_BadText⟩
    have S_BadWay : IsC W mg "BadWay" sub_BadWay := ⟨x_BadWay, PySem.W.mg_of X G n_BadWay, fun k b e => (match k, b, e with | 0, _, rfl => ⟨T_BoxError, ki_BadWay_BoxError⟩ | 1, _, rfl => ⟨T_BadPrime, ki_BadWay_BadPrime⟩ | 2, _, rfl => ⟨T_BadNumber, ki_BadWay_BadNumber⟩ | 3, _, rfl => ⟨T_BadShape, ki_BadWay_BadShape⟩ | 4, _, rfl => ⟨T_BadBox, ki_BadWay_BadBox⟩ | 5, _, rfl => ⟨T_BadFilling, ki_BadWay_BadFilling⟩ | 6, _, rfl => ⟨T_BadOrder, ki_BadWay_BadOrder⟩ | 7, _, rfl => ⟨T_BadSum, ki_BadWay_BadSum⟩ | 8, _, rfl => ⟨T_BadWord, ki_BadWay_BadWord⟩ | 9, _, rfl => ⟨T_TooMany, ki_BadWay_TooMany⟩ | 10, _, rfl => ⟨T_BadPowers, ki_BadWay_BadPowers⟩ | 11, _, rfl => ⟨T_BadCourse, ki_BadWay_BadCourse⟩ | 12, _, rfl => ⟨T_NotFree, ki_BadWay_NotFree⟩ | 13, _, rfl => ⟨T_NotTold, ki_BadWay_NotTold⟩ | 14, _, rfl => ⟨T_BadActing, ki_BadWay_BadActing⟩ | 15, _, rfl => ⟨T_BadRows, ki_BadWay_BadRows⟩ | 16, _, rfl => ⟨T_BadWay, ki_BadWay_BadWay⟩ | 17, _, rfl => ⟨T_BadLines, ki_BadWay_BadLines⟩ | 18, _, rfl => ⟨T_BadSpread, ki_BadWay_BadSpread⟩ | 19, _, rfl => ⟨T_BadCell, ki_BadWay_BadCell⟩ | 20, _, rfl => ⟨T_NotHere, ki_BadWay_NotHere⟩ | 21, _, rfl => ⟨T_NotAlike, ki_BadWay_NotAlike⟩ | 22, _, rfl => ⟨T_BadDeed, ki_BadWay_BadDeed⟩ | 23, _, rfl => ⟨T_BadLive, ki_BadWay_BadLive⟩ | 24, _, rfl => ⟨T_BadName, ki_BadWay_BadName⟩ | 25, _, rfl => ⟨T_BadText, ki_BadWay_BadText⟩ | 26, _, rfl => ⟨T_NoWatch, ki_BadWay_NoWatch⟩ | 27, _, rfl => ⟨T_NothingLeft, ki_BadWay_NothingLeft⟩ | (k + 28), _, e => by simp [sub_BadWay] at e), kn_BadWay⟩
    have S_BadWord : IsC W mg "BadWord" sub_BadWord := ⟨x_BadWord, PySem.W.mg_of X G n_BadWord, fun k b e => (match k, b, e with | 0, _, rfl => ⟨T_BoxError, ki_BadWord_BoxError⟩ | 1, _, rfl => ⟨T_BadPrime, ki_BadWord_BadPrime⟩ | 2, _, rfl => ⟨T_BadNumber, ki_BadWord_BadNumber⟩ | 3, _, rfl => ⟨T_BadShape, ki_BadWord_BadShape⟩ | 4, _, rfl => ⟨T_BadBox, ki_BadWord_BadBox⟩ | 5, _, rfl => ⟨T_BadFilling, ki_BadWord_BadFilling⟩ | 6, _, rfl => ⟨T_BadOrder, ki_BadWord_BadOrder⟩ | 7, _, rfl => ⟨T_BadSum, ki_BadWord_BadSum⟩ | 8, _, rfl => ⟨T_BadWord, ki_BadWord_BadWord⟩ | 9, _, rfl => ⟨T_TooMany, ki_BadWord_TooMany⟩ | 10, _, rfl => ⟨T_BadPowers, ki_BadWord_BadPowers⟩ | 11, _, rfl => ⟨T_BadCourse, ki_BadWord_BadCourse⟩ | 12, _, rfl => ⟨T_NotFree, ki_BadWord_NotFree⟩ | 13, _, rfl => ⟨T_NotTold, ki_BadWord_NotTold⟩ | 14, _, rfl => ⟨T_BadActing, ki_BadWord_BadActing⟩ | 15, _, rfl => ⟨T_BadRows, ki_BadWord_BadRows⟩ | 16, _, rfl => ⟨T_BadWay, ki_BadWord_BadWay⟩ | 17, _, rfl => ⟨T_BadLines, ki_BadWord_BadLines⟩ | 18, _, rfl => ⟨T_BadSpread, ki_BadWord_BadSpread⟩ | 19, _, rfl => ⟨T_BadCell, ki_BadWord_BadCell⟩ | 20, _, rfl => ⟨T_NotHere, ki_BadWord_NotHere⟩ | 21, _, rfl => ⟨T_NotAlike, ki_BadWord_NotAlike⟩ | 22, _, rfl => ⟨T_BadDeed, ki_BadWord_BadDeed⟩ | 23, _, rfl => ⟨T_BadLive, ki_BadWord_BadLive⟩ | 24, _, rfl => ⟨T_BadName, ki_BadWord_BadName⟩ | 25, _, rfl => ⟨T_BadText, ki_BadWord_BadText⟩ | 26, _, rfl => ⟨T_NoWatch, ki_BadWord_NoWatch⟩ | 27, _, rfl => ⟨T_NothingLeft, ki_BadWord_NothingLeft⟩ | (k + 28), _, e => by simp [sub_BadWord] at e), kn_BadWord⟩
    have S_BoxError : IsC W mg "BoxError" sub_BoxError := ⟨x_BoxError, PySem.W.mg_of X G n_BoxError, fun k b e => (match k, b, e with | 0, _, rfl => ⟨T_BoxError, ki_BoxError_BoxError⟩ | 1, _, rfl => ⟨T_BadPrime, ki_BoxError_BadPrime⟩ | 2, _, rfl => ⟨T_BadNumber, ki_BoxError_BadNumber⟩ | 3, _, rfl => ⟨T_BadShape, ki_BoxError_BadShape⟩ | 4, _, rfl => ⟨T_BadBox, ki_BoxError_BadBox⟩ | 5, _, rfl => ⟨T_BadFilling, ki_BoxError_BadFilling⟩ | 6, _, rfl => ⟨T_BadOrder, ki_BoxError_BadOrder⟩ | 7, _, rfl => ⟨T_BadSum, ki_BoxError_BadSum⟩ | 8, _, rfl => ⟨T_BadWord, ki_BoxError_BadWord⟩ | 9, _, rfl => ⟨T_TooMany, ki_BoxError_TooMany⟩ | 10, _, rfl => ⟨T_BadPowers, ki_BoxError_BadPowers⟩ | 11, _, rfl => ⟨T_BadCourse, ki_BoxError_BadCourse⟩ | 12, _, rfl => ⟨T_NotFree, ki_BoxError_NotFree⟩ | 13, _, rfl => ⟨T_NotTold, ki_BoxError_NotTold⟩ | 14, _, rfl => ⟨T_BadActing, ki_BoxError_BadActing⟩ | 15, _, rfl => ⟨T_BadRows, ki_BoxError_BadRows⟩ | 16, _, rfl => ⟨T_BadWay, ki_BoxError_BadWay⟩ | 17, _, rfl => ⟨T_BadLines, ki_BoxError_BadLines⟩ | 18, _, rfl => ⟨T_BadSpread, ki_BoxError_BadSpread⟩ | 19, _, rfl => ⟨T_BadCell, ki_BoxError_BadCell⟩ | 20, _, rfl => ⟨T_NotHere, ki_BoxError_NotHere⟩ | 21, _, rfl => ⟨T_NotAlike, ki_BoxError_NotAlike⟩ | 22, _, rfl => ⟨T_BadDeed, ki_BoxError_BadDeed⟩ | 23, _, rfl => ⟨T_BadLive, ki_BoxError_BadLive⟩ | 24, _, rfl => ⟨T_BadName, ki_BoxError_BadName⟩ | 25, _, rfl => ⟨T_BadText, ki_BoxError_BadText⟩ | 26, _, rfl => ⟨T_NoWatch, ki_BoxError_NoWatch⟩ | 27, _, rfl => ⟨T_NothingLeft, ki_BoxError_NothingLeft⟩ | (k + 28), _, e => by simp [sub_BoxError] at e), kn_BoxError⟩
    have S_NoWatch : IsC W mg "NoWatch" sub_NoWatch := ⟨x_NoWatch, PySem.W.mg_of X G n_NoWatch, fun k b e => (match k, b, e with | 0, _, rfl => ⟨T_BoxError, ki_NoWatch_BoxError⟩ | 1, _, rfl => ⟨T_BadPrime, ki_NoWatch_BadPrime⟩ | 2, _, rfl => ⟨T_BadNumber, ki_NoWatch_BadNumber⟩ | 3, _, rfl => ⟨T_BadShape, ki_NoWatch_BadShape⟩ | 4, _, rfl => ⟨T_BadBox, ki_NoWatch_BadBox⟩ | 5, _, rfl => ⟨T_BadFilling, ki_NoWatch_BadFilling⟩ | 6, _, rfl => ⟨T_BadOrder, ki_NoWatch_BadOrder⟩ | 7, _, rfl => ⟨T_BadSum, ki_NoWatch_BadSum⟩ | 8, _, rfl => ⟨T_BadWord, ki_NoWatch_BadWord⟩ | 9, _, rfl => ⟨T_TooMany, ki_NoWatch_TooMany⟩ | 10, _, rfl => ⟨T_BadPowers, ki_NoWatch_BadPowers⟩ | 11, _, rfl => ⟨T_BadCourse, ki_NoWatch_BadCourse⟩ | 12, _, rfl => ⟨T_NotFree, ki_NoWatch_NotFree⟩ | 13, _, rfl => ⟨T_NotTold, ki_NoWatch_NotTold⟩ | 14, _, rfl => ⟨T_BadActing, ki_NoWatch_BadActing⟩ | 15, _, rfl => ⟨T_BadRows, ki_NoWatch_BadRows⟩ | 16, _, rfl => ⟨T_BadWay, ki_NoWatch_BadWay⟩ | 17, _, rfl => ⟨T_BadLines, ki_NoWatch_BadLines⟩ | 18, _, rfl => ⟨T_BadSpread, ki_NoWatch_BadSpread⟩ | 19, _, rfl => ⟨T_BadCell, ki_NoWatch_BadCell⟩ | 20, _, rfl => ⟨T_NotHere, ki_NoWatch_NotHere⟩ | 21, _, rfl => ⟨T_NotAlike, ki_NoWatch_NotAlike⟩ | 22, _, rfl => ⟨T_BadDeed, ki_NoWatch_BadDeed⟩ | 23, _, rfl => ⟨T_BadLive, ki_NoWatch_BadLive⟩ | 24, _, rfl => ⟨T_BadName, ki_NoWatch_BadName⟩ | 25, _, rfl => ⟨T_BadText, ki_NoWatch_BadText⟩ | 26, _, rfl => ⟨T_NoWatch, ki_NoWatch_NoWatch⟩ | 27, _, rfl => ⟨T_NothingLeft, ki_NoWatch_NothingLeft⟩ | (k + 28), _, e => by simp [sub_NoWatch] at e), kn_NoWatch⟩
    have S_NotAlike : IsC W mg "NotAlike" sub_NotAlike := ⟨x_NotAlike, PySem.W.mg_of X G n_NotAlike, fun k b e => (match k, b, e with | 0, _, rfl => ⟨T_BoxError, ki_NotAlike_BoxError⟩ | 1, _, rfl => ⟨T_BadPrime, ki_NotAlike_BadPrime⟩ | 2, _, rfl => ⟨T_BadNumber, ki_NotAlike_BadNumber⟩ | 3, _, rfl => ⟨T_BadShape, ki_NotAlike_BadShape⟩ | 4, _, rfl => ⟨T_BadBox, ki_NotAlike_BadBox⟩ | 5, _, rfl => ⟨T_BadFilling, ki_NotAlike_BadFilling⟩ | 6, _, rfl => ⟨T_BadOrder, ki_NotAlike_BadOrder⟩ | 7, _, rfl => ⟨T_BadSum, ki_NotAlike_BadSum⟩ | 8, _, rfl => ⟨T_BadWord, ki_NotAlike_BadWord⟩ | 9, _, rfl => ⟨T_TooMany, ki_NotAlike_TooMany⟩ | 10, _, rfl => ⟨T_BadPowers, ki_NotAlike_BadPowers⟩ | 11, _, rfl => ⟨T_BadCourse, ki_NotAlike_BadCourse⟩ | 12, _, rfl => ⟨T_NotFree, ki_NotAlike_NotFree⟩ | 13, _, rfl => ⟨T_NotTold, ki_NotAlike_NotTold⟩ | 14, _, rfl => ⟨T_BadActing, ki_NotAlike_BadActing⟩ | 15, _, rfl => ⟨T_BadRows, ki_NotAlike_BadRows⟩ | 16, _, rfl => ⟨T_BadWay, ki_NotAlike_BadWay⟩ | 17, _, rfl => ⟨T_BadLines, ki_NotAlike_BadLines⟩ | 18, _, rfl => ⟨T_BadSpread, ki_NotAlike_BadSpread⟩ | 19, _, rfl => ⟨T_BadCell, ki_NotAlike_BadCell⟩ | 20, _, rfl => ⟨T_NotHere, ki_NotAlike_NotHere⟩ | 21, _, rfl => ⟨T_NotAlike, ki_NotAlike_NotAlike⟩ | 22, _, rfl => ⟨T_BadDeed, ki_NotAlike_BadDeed⟩ | 23, _, rfl => ⟨T_BadLive, ki_NotAlike_BadLive⟩ | 24, _, rfl => ⟨T_BadName, ki_NotAlike_BadName⟩ | 25, _, rfl => ⟨T_BadText, ki_NotAlike_BadText⟩ | 26, _, rfl => ⟨T_NoWatch, ki_NotAlike_NoWatch⟩ | 27, _, rfl => ⟨T_NothingLeft, ki_NotAlike_NothingLeft⟩ | (k + 28), _, e => by simp [sub_NotAlike] at e), kn_NotAlike⟩
    have S_NotFree : IsC W mg "NotFree" sub_NotFree := ⟨x_NotFree, PySem.W.mg_of X G n_NotFree, fun k b e => (match k, b, e with | 0, _, rfl => ⟨T_BoxError, ki_NotFree_BoxError⟩ | 1, _, rfl => ⟨T_BadPrime, ki_NotFree_BadPrime⟩ | 2, _, rfl => ⟨T_BadNumber, ki_NotFree_BadNumber⟩ | 3, _, rfl => ⟨T_BadShape, ki_NotFree_BadShape⟩ | 4, _, rfl => ⟨T_BadBox, ki_NotFree_BadBox⟩ | 5, _, rfl => ⟨T_BadFilling, ki_NotFree_BadFilling⟩ | 6, _, rfl => ⟨T_BadOrder, ki_NotFree_BadOrder⟩ | 7, _, rfl => ⟨T_BadSum, ki_NotFree_BadSum⟩ | 8, _, rfl => ⟨T_BadWord, ki_NotFree_BadWord⟩ | 9, _, rfl => ⟨T_TooMany, ki_NotFree_TooMany⟩ | 10, _, rfl => ⟨T_BadPowers, ki_NotFree_BadPowers⟩ | 11, _, rfl => ⟨T_BadCourse, ki_NotFree_BadCourse⟩ | 12, _, rfl => ⟨T_NotFree, ki_NotFree_NotFree⟩ | 13, _, rfl => ⟨T_NotTold, ki_NotFree_NotTold⟩ | 14, _, rfl => ⟨T_BadActing, ki_NotFree_BadActing⟩ | 15, _, rfl => ⟨T_BadRows, ki_NotFree_BadRows⟩ | 16, _, rfl => ⟨T_BadWay, ki_NotFree_BadWay⟩ | 17, _, rfl => ⟨T_BadLines, ki_NotFree_BadLines⟩ | 18, _, rfl => ⟨T_BadSpread, ki_NotFree_BadSpread⟩ | 19, _, rfl => ⟨T_BadCell, ki_NotFree_BadCell⟩ | 20, _, rfl => ⟨T_NotHere, ki_NotFree_NotHere⟩ | 21, _, rfl => ⟨T_NotAlike, ki_NotFree_NotAlike⟩ | 22, _, rfl => ⟨T_BadDeed, ki_NotFree_BadDeed⟩ | 23, _, rfl => ⟨T_BadLive, ki_NotFree_BadLive⟩ | 24, _, rfl => ⟨T_BadName, ki_NotFree_BadName⟩ | 25, _, rfl => ⟨T_BadText, ki_NotFree_BadText⟩ | 26, _, rfl => ⟨T_NoWatch, ki_NotFree_NoWatch⟩ | 27, _, rfl => ⟨T_NothingLeft, ki_NotFree_NothingLeft⟩ | (k + 28), _, e => by simp [sub_NotFree] at e), kn_NotFree⟩
    have S_NotHere : IsC W mg "NotHere" sub_NotHere := ⟨x_NotHere, PySem.W.mg_of X G n_NotHere, fun k b e => (match k, b, e with | 0, _, rfl => ⟨T_BoxError, ki_NotHere_BoxError⟩ | 1, _, rfl => ⟨T_BadPrime, ki_NotHere_BadPrime⟩ | 2, _, rfl => ⟨T_BadNumber, ki_NotHere_BadNumber⟩ | 3, _, rfl => ⟨T_BadShape, ki_NotHere_BadShape⟩ | 4, _, rfl => ⟨T_BadBox, ki_NotHere_BadBox⟩ | 5, _, rfl => ⟨T_BadFilling, ki_NotHere_BadFilling⟩ | 6, _, rfl => ⟨T_BadOrder, ki_NotHere_BadOrder⟩ | 7, _, rfl => ⟨T_BadSum, ki_NotHere_BadSum⟩ | 8, _, rfl => ⟨T_BadWord, ki_NotHere_BadWord⟩ | 9, _, rfl => ⟨T_TooMany, ki_NotHere_TooMany⟩ | 10, _, rfl => ⟨T_BadPowers, ki_NotHere_BadPowers⟩ | 11, _, rfl => ⟨T_BadCourse, ki_NotHere_BadCourse⟩ | 12, _, rfl => ⟨T_NotFree, ki_NotHere_NotFree⟩ | 13, _, rfl => ⟨T_NotTold, ki_NotHere_NotTold⟩ | 14, _, rfl => ⟨T_BadActing, ki_NotHere_BadActing⟩ | 15, _, rfl => ⟨T_BadRows, ki_NotHere_BadRows⟩ | 16, _, rfl => ⟨T_BadWay, ki_NotHere_BadWay⟩ | 17, _, rfl => ⟨T_BadLines, ki_NotHere_BadLines⟩ | 18, _, rfl => ⟨T_BadSpread, ki_NotHere_BadSpread⟩ | 19, _, rfl => ⟨T_BadCell, ki_NotHere_BadCell⟩ | 20, _, rfl => ⟨T_NotHere, ki_NotHere_NotHere⟩ | 21, _, rfl => ⟨T_NotAlike, ki_NotHere_NotAlike⟩ | 22, _, rfl => ⟨T_BadDeed, ki_NotHere_BadDeed⟩ | 23, _, rfl => ⟨T_BadLive, ki_NotHere_BadLive⟩ | 24, _, rfl => ⟨T_BadName, ki_NotHere_BadName⟩ | 25, _, rfl => ⟨T_BadText, ki_NotHere_BadText⟩ | 26, _, rfl => ⟨T_NoWatch, ki_NotHere_NoWatch⟩ | 27, _, rfl => ⟨T_NothingLeft, ki_NotHere_NothingLeft⟩ | (k + 28), _, e => by simp [sub_NotHere] at e), kn_NotHere⟩
    have S_NotTold : IsC W mg "NotTold" sub_NotTold := ⟨x_NotTold, PySem.W.mg_of X G n_NotTold, fun k b e => (match k, b, e with | 0, _, rfl => ⟨T_BoxError, ki_NotTold_BoxError⟩ | 1, _, rfl => ⟨T_BadPrime, ki_NotTold_BadPrime⟩ | 2, _, rfl => ⟨T_BadNumber, ki_NotTold_BadNumber⟩ | 3, _, rfl => ⟨T_BadShape, ki_NotTold_BadShape⟩ | 4, _, rfl => ⟨T_BadBox, ki_NotTold_BadBox⟩ | 5, _, rfl => ⟨T_BadFilling, ki_NotTold_BadFilling⟩ | 6, _, rfl => ⟨T_BadOrder, ki_NotTold_BadOrder⟩ | 7, _, rfl => ⟨T_BadSum, ki_NotTold_BadSum⟩ | 8, _, rfl => ⟨T_BadWord, ki_NotTold_BadWord⟩ | 9, _, rfl => ⟨T_TooMany, ki_NotTold_TooMany⟩ | 10, _, rfl => ⟨T_BadPowers, ki_NotTold_BadPowers⟩ | 11, _, rfl => ⟨T_BadCourse, ki_NotTold_BadCourse⟩ | 12, _, rfl => ⟨T_NotFree, ki_NotTold_NotFree⟩ | 13, _, rfl => ⟨T_NotTold, ki_NotTold_NotTold⟩ | 14, _, rfl => ⟨T_BadActing, ki_NotTold_BadActing⟩ | 15, _, rfl => ⟨T_BadRows, ki_NotTold_BadRows⟩ | 16, _, rfl => ⟨T_BadWay, ki_NotTold_BadWay⟩ | 17, _, rfl => ⟨T_BadLines, ki_NotTold_BadLines⟩ | 18, _, rfl => ⟨T_BadSpread, ki_NotTold_BadSpread⟩ | 19, _, rfl => ⟨T_BadCell, ki_NotTold_BadCell⟩ | 20, _, rfl => ⟨T_NotHere, ki_NotTold_NotHere⟩ | 21, _, rfl => ⟨T_NotAlike, ki_NotTold_NotAlike⟩ | 22, _, rfl => ⟨T_BadDeed, ki_NotTold_BadDeed⟩ | 23, _, rfl => ⟨T_BadLive, ki_NotTold_BadLive⟩ | 24, _, rfl => ⟨T_BadName, ki_NotTold_BadName⟩ | 25, _, rfl => ⟨T_BadText, ki_NotTold_BadText⟩ | 26, _, rfl => ⟨T_NoWatch, ki_NotTold_NoWatch⟩ | 27, _, rfl => ⟨T_NothingLeft, ki_NotTold_NothingLeft⟩ | (k + 28), _, e => by simp [sub_NotTold] at e), kn_NotTold⟩
    have S_NothingLeft : IsC W mg "NothingLeft" sub_NothingLeft := ⟨x_NothingLeft, PySem.W.mg_of X G n_NothingLeft, fun k b e => (match k, b, e with | 0, _, rfl => ⟨T_BoxError, ki_NothingLeft_BoxError⟩ | 1, _, rfl => ⟨T_BadPrime, ki_NothingLeft_BadPrime⟩ | 2, _, rfl => ⟨T_BadNumber, ki_NothingLeft_BadNumber⟩ | 3, _, rfl => ⟨T_BadShape, ki_NothingLeft_BadShape⟩ | 4, _, rfl => ⟨T_BadBox, ki_NothingLeft_BadBox⟩ | 5, _, rfl => ⟨T_BadFilling, ki_NothingLeft_BadFilling⟩ | 6, _, rfl => ⟨T_BadOrder, ki_NothingLeft_BadOrder⟩ | 7, _, rfl => ⟨T_BadSum, ki_NothingLeft_BadSum⟩ | 8, _, rfl => ⟨T_BadWord, ki_NothingLeft_BadWord⟩ | 9, _, rfl => ⟨T_TooMany, ki_NothingLeft_TooMany⟩ | 10, _, rfl => ⟨T_BadPowers, ki_NothingLeft_BadPowers⟩ | 11, _, rfl => ⟨T_BadCourse, ki_NothingLeft_BadCourse⟩ | 12, _, rfl => ⟨T_NotFree, ki_NothingLeft_NotFree⟩ | 13, _, rfl => ⟨T_NotTold, ki_NothingLeft_NotTold⟩ | 14, _, rfl => ⟨T_BadActing, ki_NothingLeft_BadActing⟩ | 15, _, rfl => ⟨T_BadRows, ki_NothingLeft_BadRows⟩ | 16, _, rfl => ⟨T_BadWay, ki_NothingLeft_BadWay⟩ | 17, _, rfl => ⟨T_BadLines, ki_NothingLeft_BadLines⟩ | 18, _, rfl => ⟨T_BadSpread, ki_NothingLeft_BadSpread⟩ | 19, _, rfl => ⟨T_BadCell, ki_NothingLeft_BadCell⟩ | 20, _, rfl => ⟨T_NotHere, ki_NothingLeft_NotHere⟩ | 21, _, rfl => ⟨T_NotAlike, ki_NothingLeft_NotAlike⟩ | 22, _, rfl => ⟨T_BadDeed, ki_NothingLeft_BadDeed⟩ | 23, _, rfl => ⟨T_BadLive, ki_NothingLeft_BadLive⟩ | 24, _, rfl => ⟨T_BadName, ki_NothingLeft_BadName⟩ | 25, _, rfl => ⟨T_BadText, ki_NothingLeft_BadText⟩ | 26, _, rfl => ⟨T_NoWatch, ki_NothingLeft_NoWatch⟩ | 27, _, rfl => ⟨T_NothingLeft, ki_NothingLeft_NothingLeft⟩ | (k + 28), _, e => by simp [sub_NothingLeft] at e), kn_NothingLeft⟩
    have S_TooMany : IsC W mg "TooMany" sub_TooMany := ⟨x_TooMany, PySem.W.mg_of X G n_TooMany, fun k b e => (match k, b, e with | 0, _, rfl => ⟨T_BoxError, ki_TooMany_BoxError⟩ | 1, _, rfl => ⟨T_BadPrime, ki_TooMany_BadPrime⟩ | 2, _, rfl => ⟨T_BadNumber, ki_TooMany_BadNumber⟩ | 3, _, rfl => ⟨T_BadShape, ki_TooMany_BadShape⟩ | 4, _, rfl => ⟨T_BadBox, ki_TooMany_BadBox⟩ | 5, _, rfl => ⟨T_BadFilling, ki_TooMany_BadFilling⟩ | 6, _, rfl => ⟨T_BadOrder, ki_TooMany_BadOrder⟩ | 7, _, rfl => ⟨T_BadSum, ki_TooMany_BadSum⟩ | 8, _, rfl => ⟨T_BadWord, ki_TooMany_BadWord⟩ | 9, _, rfl => ⟨T_TooMany, ki_TooMany_TooMany⟩ | 10, _, rfl => ⟨T_BadPowers, ki_TooMany_BadPowers⟩ | 11, _, rfl => ⟨T_BadCourse, ki_TooMany_BadCourse⟩ | 12, _, rfl => ⟨T_NotFree, ki_TooMany_NotFree⟩ | 13, _, rfl => ⟨T_NotTold, ki_TooMany_NotTold⟩ | 14, _, rfl => ⟨T_BadActing, ki_TooMany_BadActing⟩ | 15, _, rfl => ⟨T_BadRows, ki_TooMany_BadRows⟩ | 16, _, rfl => ⟨T_BadWay, ki_TooMany_BadWay⟩ | 17, _, rfl => ⟨T_BadLines, ki_TooMany_BadLines⟩ | 18, _, rfl => ⟨T_BadSpread, ki_TooMany_BadSpread⟩ | 19, _, rfl => ⟨T_BadCell, ki_TooMany_BadCell⟩ | 20, _, rfl => ⟨T_NotHere, ki_TooMany_NotHere⟩ | 21, _, rfl => ⟨T_NotAlike, ki_TooMany_NotAlike⟩ | 22, _, rfl => ⟨T_BadDeed, ki_TooMany_BadDeed⟩ | 23, _, rfl => ⟨T_BadLive, ki_TooMany_BadLive⟩ | 24, _, rfl => ⟨T_BadName, ki_TooMany_BadName⟩ | 25, _, rfl => ⟨T_BadText, ki_TooMany_BadText⟩ | 26, _, rfl => ⟨T_NoWatch, ki_TooMany_NoWatch⟩ | 27, _, rfl => ⟨T_NothingLeft, ki_TooMany_NothingLeft⟩ | (k + 28), _, e => by simp [sub_TooMany] at e), kn_TooMany⟩
    have S_ValueError : IsB W "ValueError" sub_ValueError := ⟨fun k b e => (match k, b, e with | 0, _, rfl => ⟨T_BoxError, kb_ValueError_BoxError⟩ | 1, _, rfl => ⟨T_BadPrime, kb_ValueError_BadPrime⟩ | 2, _, rfl => ⟨T_BadNumber, kb_ValueError_BadNumber⟩ | 3, _, rfl => ⟨T_BadShape, kb_ValueError_BadShape⟩ | 4, _, rfl => ⟨T_BadBox, kb_ValueError_BadBox⟩ | 5, _, rfl => ⟨T_BadFilling, kb_ValueError_BadFilling⟩ | 6, _, rfl => ⟨T_BadOrder, kb_ValueError_BadOrder⟩ | 7, _, rfl => ⟨T_BadSum, kb_ValueError_BadSum⟩ | 8, _, rfl => ⟨T_BadWord, kb_ValueError_BadWord⟩ | 9, _, rfl => ⟨T_TooMany, kb_ValueError_TooMany⟩ | 10, _, rfl => ⟨T_BadPowers, kb_ValueError_BadPowers⟩ | 11, _, rfl => ⟨T_BadCourse, kb_ValueError_BadCourse⟩ | 12, _, rfl => ⟨T_NotFree, kb_ValueError_NotFree⟩ | 13, _, rfl => ⟨T_NotTold, kb_ValueError_NotTold⟩ | 14, _, rfl => ⟨T_BadActing, kb_ValueError_BadActing⟩ | 15, _, rfl => ⟨T_BadRows, kb_ValueError_BadRows⟩ | 16, _, rfl => ⟨T_BadWay, kb_ValueError_BadWay⟩ | 17, _, rfl => ⟨T_BadLines, kb_ValueError_BadLines⟩ | 18, _, rfl => ⟨T_BadSpread, kb_ValueError_BadSpread⟩ | 19, _, rfl => ⟨T_BadCell, kb_ValueError_BadCell⟩ | 20, _, rfl => ⟨T_NotHere, kb_ValueError_NotHere⟩ | 21, _, rfl => ⟨T_NotAlike, kb_ValueError_NotAlike⟩ | 22, _, rfl => ⟨T_BadDeed, kb_ValueError_BadDeed⟩ | 23, _, rfl => ⟨T_BadLive, kb_ValueError_BadLive⟩ | 24, _, rfl => ⟨T_BadName, kb_ValueError_BadName⟩ | 25, _, rfl => ⟨T_BadText, kb_ValueError_BadText⟩ | 26, _, rfl => ⟨T_NoWatch, kb_ValueError_NoWatch⟩ | 27, _, rfl => ⟨T_NothingLeft, kb_ValueError_NothingLeft⟩ | (k + 28), _, e => by simp [sub_ValueError] at e)⟩
    have A_at : AtC W "at" ok_at := ⟨fun k e => by
      have e : k ∈ [25] := by simpa [ok_at] using e
      simp only [List.mem_cons, List.not_mem_nil, or_false] at e
      rcases e with rfl
      · exact ⟨T_BadText, rfl, nf_BadText, rfl⟩⟩
    have A_most : AtC W "most" ok_most := ⟨fun k e => by
      have e : k ∈ [9] := by simpa [ok_most] using e
      simp only [List.mem_cons, List.not_mem_nil, or_false] at e
      rcases e with rfl
      · exact ⟨T_TooMany, rfl, nf_TooMany, rfl⟩⟩
    have A_name : AtC W "name" ok_name := ⟨fun k e => by
      have e : k ∈ [26] := by simpa [ok_name] using e
      simp only [List.mem_cons, List.not_mem_nil, or_false] at e
      rcases e with rfl
      · exact ⟨T_NoWatch, rfl, nf_NoWatch, rfl⟩⟩
    have A_part : AtC W "part" ok_part := ⟨fun k e => by
      have e : k ∈ [2, 14] := by simpa [ok_part] using e
      simp only [List.mem_cons, List.not_mem_nil, or_false] at e
      rcases e with rfl | rfl
      · exact ⟨T_BadNumber, rfl, nf_BadNumber, rfl⟩
      · exact ⟨T_BadActing, rfl, nf_BadActing, rfl⟩⟩
    have C__law_take := take_c (P := P) (w := w) (base := base) (d := ad gd L C a) (k := 0) K__law_take K__law_mixed g_int
    have C__law_kinds := p__law_kinds (P := P) (w := w) (base := base) (W := W) (K := K) (k := 0) rfl K__law_kinds g_isinstance S_NoWatch S_BadText S_BadActing S_TooMany S_BadNumber S_NothingLeft S_BadName S_BadLive S_BadDeed S_NotAlike S_NotHere S_BadCell S_BadSpread S_BadLines S_BadWay S_BadRows S_NotTold S_NotFree S_BadCourse S_BadPowers S_BadWord S_BadSum S_BadOrder S_BadFilling S_BadBox S_BadShape S_BadPrime
    have C__law_plain_errors := p__law_plain_errors (P := P) (w := w) (base := base) (W := W) (K := K) (k := 0) rfl K__law_plain_errors E_NothingLeft E_BadName E_BadLive E_BadDeed E_NotAlike E_NotHere E_BadCell E_BadSpread E_BadLines E_BadWay E_BadRows E_NotTold E_NotFree E_BadCourse E_BadPowers E_BadWord E_BadSum E_BadOrder E_BadFilling E_BadBox E_BadShape E_BadPrime
    have C__law_errors_of := p__law_errors_of (P := P) (w := w) (base := base) (W := W) (K := K) (k := 0) rfl K__law_errors_of E_NoWatch A_name E_BadText A_at E_BadActing A_part E_TooMany A_most E_BadNumber
    have C__law_pick := p__law_pick (P := P) (w := w) (base := base) (W := W) (K := K) (k := 2) rfl K__law_pick (C__law_take.up (by decide)) g_len
    have C__law_any := p__law_any (P := P) (w := w) (base := base) (W := W) (K := K) (k := 3) rfl K__law_any (C__law_pick.up (by decide))
    exact p_law (P := P) (w := w) (base := base) (W := W) (K := K) (k := KB) rfl (C__law_kinds.up (by decide)) g_isinstance g_ValueError S_ValueError E_BoxError g_repr g_enumerate S_BoxError g_range (C__law_plain_errors.up (by decide)) (C__law_errors_of.up (by decide)) (C__law_any.up (by decide)) (C__law_pick.up (by decide)) o0
  refine ⟨PySem.W.fnOf "law" "law" (defArgs st_law) (defBody st_law) (defScope st_law) .none kV_law dc_law pm_law an_law cd_law ct_law, ([] : List (Addr × Addr)), spLaw K ([] : List (Addr × Str)), ?_, ?_, ?_, fun s u => .of_eq rfl, fun H a ns hl hT hS hO => ⟨a, ns, rfl, hl, hS, ?_, hO, fun _ => rfl⟩, fun base hK hG hTB => ?_⟩
  · exact fun p hp => absurd hp (by simp)
  · exact fun p hp => absurd hp (by simp)
  · exact fun p hp => absurd hp (by simp)
  · exact fun p hp => absurd hp (by simp)
  · obtain ⟨fd1, F1, oc1, kV1, doc1, pm1, ct1, od1, an1, osl1, lk1, rfl⟩ := MK base hTB
    rw [l_law] at lk1
    cases lk1
    exact F1
end
end Bx
open PySem PySem.W PyProof.Rows
open L2 (Vals V)
set_option maxRecDepth 100000 in
set_option maxHeartbeats 0 in
theorem PySem.Challenge.cw_boxparts_k00_errors_of_all_parts_holds : PySem.Challenge.rw_boxparts_k00_errors_of_all_parts.Holds := by
  w_on; o_law; k_head; (case hw => w_witness2)
  k_fill
  refine Bx.walk_ofG (l := PySem.Challenge.rw_boxparts_k00_errors_of_all_parts) (n := 63) (k := Bx.KK) (x := "_law_script") (nl := [] ) rfl (by decide) rfl ⟨rfl, by decide, by decide⟩ (by decide +kernel) (fun w h Y => by first | exact PySem.W.km_in_of Y | exact PySem.W.kIn_of Y) ?F
  case F =>
    intro w mg fa h Y KX G hmg own
    refine ⟨?_⟩
    refine' Bx.all_mk KX G hmg own ?n__law_begun ?l__law_begun ?c__law_begun ?k__law_begun ?n__law_mixed ?l__law_mixed ?c__law_mixed ?k__law_mixed ?n__law_take ?l__law_take ?c__law_take ?k__law_take ?n__law_pick ?l__law_pick ?c__law_pick ?k__law_pick ?n__law_any ?l__law_any ?c__law_any ?k__law_any ?n__law_kinds ?l__law_kinds ?c__law_kinds ?k__law_kinds ?n__law_plain_errors ?l__law_plain_errors ?c__law_plain_errors ?k__law_plain_errors ?n__law_errors_of ?l__law_errors_of ?c__law_errors_of ?k__law_errors_of ?n_law ?l_law ?c_law ?k_law ?z_ValueError ?z_abs ?z_enumerate ?z_int ?z_isinstance ?z_len ?z_range ?z_repr ?z_super ?eN ?eT ?eA ?n_BoxError ?ec1_BoxError ?ec2_BoxError ?ec3_BoxError ?ec4_BoxError ?ec5_BoxError ?ec6_BoxError ?ec7_BoxError ?ec8_BoxError ?ec9_BoxError ?b_BoxError ?x1_BoxError ?n_BadPrime ?ec1_BadPrime ?ec2_BadPrime ?ec3_BadPrime ?ec4_BadPrime ?ec5_BadPrime ?ec6_BadPrime ?ec7_BadPrime ?ec8_BadPrime ?ec9_BadPrime ?b_BadPrime ?x1_BadPrime ?n_BadNumber ?ec1_BadNumber ?ec2_BadNumber ?ec3_BadNumber ?ec4_BadNumber ?ec5_BadNumber ?ec6_BadNumber ?ec7_BadNumber ?ec8_BadNumber ?ec9_BadNumber ?b_BadNumber ?L_BadNumber ?rb_BadNumber ?sa_BadNumber ?nf_BadNumber ?ii_BadNumber ?it_BadNumber ?il_BadNumber ?ic_BadNumber ?cl1_BadNumber ?cf_BadNumber ?ce_BadNumber ?kc_BadNumber ?m1_BadNumber ?su_BadNumber ?ve_BadNumber ?n_BadShape ?ec1_BadShape ?ec2_BadShape ?ec3_BadShape ?ec4_BadShape ?ec5_BadShape ?ec6_BadShape ?ec7_BadShape ?ec8_BadShape ?ec9_BadShape ?b_BadShape ?x1_BadShape ?n_BadBox ?ec1_BadBox ?ec2_BadBox ?ec3_BadBox ?ec4_BadBox ?ec5_BadBox ?ec6_BadBox ?ec7_BadBox ?ec8_BadBox ?ec9_BadBox ?b_BadBox ?x1_BadBox ?n_BadFilling ?ec1_BadFilling ?ec2_BadFilling ?ec3_BadFilling ?ec4_BadFilling ?ec5_BadFilling ?ec6_BadFilling ?ec7_BadFilling ?ec8_BadFilling ?ec9_BadFilling ?b_BadFilling ?x1_BadFilling ?n_BadOrder ?ec1_BadOrder ?ec2_BadOrder ?ec3_BadOrder ?ec4_BadOrder ?ec5_BadOrder ?ec6_BadOrder ?ec7_BadOrder ?ec8_BadOrder ?ec9_BadOrder ?b_BadOrder ?x1_BadOrder ?n_BadSum ?ec1_BadSum ?ec2_BadSum ?ec3_BadSum ?ec4_BadSum ?ec5_BadSum ?ec6_BadSum ?ec7_BadSum ?ec8_BadSum ?ec9_BadSum ?b_BadSum ?x1_BadSum ?n_BadWord ?ec1_BadWord ?ec2_BadWord ?ec3_BadWord ?ec4_BadWord ?ec5_BadWord ?ec6_BadWord ?ec7_BadWord ?ec8_BadWord ?ec9_BadWord ?b_BadWord ?x1_BadWord ?n_TooMany ?ec1_TooMany ?ec2_TooMany ?ec3_TooMany ?ec4_TooMany ?ec5_TooMany ?ec6_TooMany ?ec7_TooMany ?ec8_TooMany ?ec9_TooMany ?b_TooMany ?L_TooMany ?rb_TooMany ?sa_TooMany ?nf_TooMany ?ii_TooMany ?it_TooMany ?il_TooMany ?ic_TooMany ?cl1_TooMany ?cf_TooMany ?ce_TooMany ?kc_TooMany ?m1_TooMany ?su_TooMany ?ve_TooMany ?n_BadPowers ?ec1_BadPowers ?ec2_BadPowers ?ec3_BadPowers ?ec4_BadPowers ?ec5_BadPowers ?ec6_BadPowers ?ec7_BadPowers ?ec8_BadPowers ?ec9_BadPowers ?b_BadPowers ?x1_BadPowers ?n_BadCourse ?ec1_BadCourse ?ec2_BadCourse ?ec3_BadCourse ?ec4_BadCourse ?ec5_BadCourse ?ec6_BadCourse ?ec7_BadCourse ?ec8_BadCourse ?ec9_BadCourse ?b_BadCourse ?x1_BadCourse ?n_NotFree ?ec1_NotFree ?ec2_NotFree ?ec3_NotFree ?ec4_NotFree ?ec5_NotFree ?ec6_NotFree ?ec7_NotFree ?ec8_NotFree ?ec9_NotFree ?b_NotFree ?x1_NotFree ?n_NotTold ?ec1_NotTold ?ec2_NotTold ?ec3_NotTold ?ec4_NotTold ?ec5_NotTold ?ec6_NotTold ?ec7_NotTold ?ec8_NotTold ?ec9_NotTold ?b_NotTold ?x1_NotTold ?n_BadActing ?ec1_BadActing ?ec2_BadActing ?ec3_BadActing ?ec4_BadActing ?ec5_BadActing ?ec6_BadActing ?ec7_BadActing ?ec8_BadActing ?ec9_BadActing ?b_BadActing ?L_BadActing ?rb_BadActing ?sa_BadActing ?nf_BadActing ?ii_BadActing ?it_BadActing ?il_BadActing ?ic_BadActing ?cl1_BadActing ?cf_BadActing ?ce_BadActing ?kc_BadActing ?m1_BadActing ?su_BadActing ?ve_BadActing ?n_BadRows ?ec1_BadRows ?ec2_BadRows ?ec3_BadRows ?ec4_BadRows ?ec5_BadRows ?ec6_BadRows ?ec7_BadRows ?ec8_BadRows ?ec9_BadRows ?b_BadRows ?x1_BadRows ?n_BadWay ?ec1_BadWay ?ec2_BadWay ?ec3_BadWay ?ec4_BadWay ?ec5_BadWay ?ec6_BadWay ?ec7_BadWay ?ec8_BadWay ?ec9_BadWay ?b_BadWay ?x1_BadWay ?n_BadLines ?ec1_BadLines ?ec2_BadLines ?ec3_BadLines ?ec4_BadLines ?ec5_BadLines ?ec6_BadLines ?ec7_BadLines ?ec8_BadLines ?ec9_BadLines ?b_BadLines ?x1_BadLines ?n_BadSpread ?ec1_BadSpread ?ec2_BadSpread ?ec3_BadSpread ?ec4_BadSpread ?ec5_BadSpread ?ec6_BadSpread ?ec7_BadSpread ?ec8_BadSpread ?ec9_BadSpread ?b_BadSpread ?x1_BadSpread ?n_BadCell ?ec1_BadCell ?ec2_BadCell ?ec3_BadCell ?ec4_BadCell ?ec5_BadCell ?ec6_BadCell ?ec7_BadCell ?ec8_BadCell ?ec9_BadCell ?b_BadCell ?x1_BadCell ?n_NotHere ?ec1_NotHere ?ec2_NotHere ?ec3_NotHere ?ec4_NotHere ?ec5_NotHere ?ec6_NotHere ?ec7_NotHere ?ec8_NotHere ?ec9_NotHere ?b_NotHere ?x1_NotHere ?n_NotAlike ?ec1_NotAlike ?ec2_NotAlike ?ec3_NotAlike ?ec4_NotAlike ?ec5_NotAlike ?ec6_NotAlike ?ec7_NotAlike ?ec8_NotAlike ?ec9_NotAlike ?b_NotAlike ?x1_NotAlike ?n_BadDeed ?ec1_BadDeed ?ec2_BadDeed ?ec3_BadDeed ?ec4_BadDeed ?ec5_BadDeed ?ec6_BadDeed ?ec7_BadDeed ?ec8_BadDeed ?ec9_BadDeed ?b_BadDeed ?x1_BadDeed ?n_BadLive ?ec1_BadLive ?ec2_BadLive ?ec3_BadLive ?ec4_BadLive ?ec5_BadLive ?ec6_BadLive ?ec7_BadLive ?ec8_BadLive ?ec9_BadLive ?b_BadLive ?x1_BadLive ?n_BadName ?ec1_BadName ?ec2_BadName ?ec3_BadName ?ec4_BadName ?ec5_BadName ?ec6_BadName ?ec7_BadName ?ec8_BadName ?ec9_BadName ?b_BadName ?x1_BadName ?n_BadText ?ec1_BadText ?ec2_BadText ?ec3_BadText ?ec4_BadText ?ec5_BadText ?ec6_BadText ?ec7_BadText ?ec8_BadText ?ec9_BadText ?b_BadText ?L_BadText ?rb_BadText ?sa_BadText ?nf_BadText ?ii_BadText ?it_BadText ?il_BadText ?ic_BadText ?cl1_BadText ?cf_BadText ?ce_BadText ?kc_BadText ?m1_BadText ?su_BadText ?ve_BadText ?n_NoWatch ?ec1_NoWatch ?ec2_NoWatch ?ec3_NoWatch ?ec4_NoWatch ?ec5_NoWatch ?ec6_NoWatch ?ec7_NoWatch ?ec8_NoWatch ?ec9_NoWatch ?b_NoWatch ?L_NoWatch ?rb_NoWatch ?sa_NoWatch ?nf_NoWatch ?ii_NoWatch ?it_NoWatch ?il_NoWatch ?ic_NoWatch ?cl1_NoWatch ?cf_NoWatch ?ce_NoWatch ?kc_NoWatch ?m1_NoWatch ?su_NoWatch ?ve_NoWatch ?n_NothingLeft ?ec1_NothingLeft ?ec2_NothingLeft ?ec3_NothingLeft ?ec4_NothingLeft ?ec5_NothingLeft ?ec6_NothingLeft ?ec7_NothingLeft ?ec8_NothingLeft ?ec9_NothingLeft ?b_NothingLeft ?x1_NothingLeft ?kn_BadActing ?ki_BadActing_BoxError ?ki_BadActing_BadPrime ?ki_BadActing_BadNumber ?ki_BadActing_BadShape ?ki_BadActing_BadBox ?ki_BadActing_BadFilling ?ki_BadActing_BadOrder ?ki_BadActing_BadSum ?ki_BadActing_BadWord ?ki_BadActing_TooMany ?ki_BadActing_BadPowers ?ki_BadActing_BadCourse ?ki_BadActing_NotFree ?ki_BadActing_NotTold ?ki_BadActing_BadActing ?ki_BadActing_BadRows ?ki_BadActing_BadWay ?ki_BadActing_BadLines ?ki_BadActing_BadSpread ?ki_BadActing_BadCell ?ki_BadActing_NotHere ?ki_BadActing_NotAlike ?ki_BadActing_BadDeed ?ki_BadActing_BadLive ?ki_BadActing_BadName ?ki_BadActing_BadText ?ki_BadActing_NoWatch ?ki_BadActing_NothingLeft ?kn_BadBox ?ki_BadBox_BoxError ?ki_BadBox_BadPrime ?ki_BadBox_BadNumber ?ki_BadBox_BadShape ?ki_BadBox_BadBox ?ki_BadBox_BadFilling ?ki_BadBox_BadOrder ?ki_BadBox_BadSum ?ki_BadBox_BadWord ?ki_BadBox_TooMany ?ki_BadBox_BadPowers ?ki_BadBox_BadCourse ?ki_BadBox_NotFree ?ki_BadBox_NotTold ?ki_BadBox_BadActing ?ki_BadBox_BadRows ?ki_BadBox_BadWay ?ki_BadBox_BadLines ?ki_BadBox_BadSpread ?ki_BadBox_BadCell ?ki_BadBox_NotHere ?ki_BadBox_NotAlike ?ki_BadBox_BadDeed ?ki_BadBox_BadLive ?ki_BadBox_BadName ?ki_BadBox_BadText ?ki_BadBox_NoWatch ?ki_BadBox_NothingLeft ?kn_BadCell ?ki_BadCell_BoxError ?ki_BadCell_BadPrime ?ki_BadCell_BadNumber ?ki_BadCell_BadShape ?ki_BadCell_BadBox ?ki_BadCell_BadFilling ?ki_BadCell_BadOrder ?ki_BadCell_BadSum ?ki_BadCell_BadWord ?ki_BadCell_TooMany ?ki_BadCell_BadPowers ?ki_BadCell_BadCourse ?ki_BadCell_NotFree ?ki_BadCell_NotTold ?ki_BadCell_BadActing ?ki_BadCell_BadRows ?ki_BadCell_BadWay ?ki_BadCell_BadLines ?ki_BadCell_BadSpread ?ki_BadCell_BadCell ?ki_BadCell_NotHere ?ki_BadCell_NotAlike ?ki_BadCell_BadDeed ?ki_BadCell_BadLive ?ki_BadCell_BadName ?ki_BadCell_BadText ?ki_BadCell_NoWatch ?ki_BadCell_NothingLeft ?kn_BadCourse ?ki_BadCourse_BoxError ?ki_BadCourse_BadPrime ?ki_BadCourse_BadNumber ?ki_BadCourse_BadShape ?ki_BadCourse_BadBox ?ki_BadCourse_BadFilling ?ki_BadCourse_BadOrder ?ki_BadCourse_BadSum ?ki_BadCourse_BadWord ?ki_BadCourse_TooMany ?ki_BadCourse_BadPowers ?ki_BadCourse_BadCourse ?ki_BadCourse_NotFree ?ki_BadCourse_NotTold ?ki_BadCourse_BadActing ?ki_BadCourse_BadRows ?ki_BadCourse_BadWay ?ki_BadCourse_BadLines ?ki_BadCourse_BadSpread ?ki_BadCourse_BadCell ?ki_BadCourse_NotHere ?ki_BadCourse_NotAlike ?ki_BadCourse_BadDeed ?ki_BadCourse_BadLive ?ki_BadCourse_BadName ?ki_BadCourse_BadText ?ki_BadCourse_NoWatch ?ki_BadCourse_NothingLeft ?kn_BadDeed ?ki_BadDeed_BoxError ?ki_BadDeed_BadPrime ?ki_BadDeed_BadNumber ?ki_BadDeed_BadShape ?ki_BadDeed_BadBox ?ki_BadDeed_BadFilling ?ki_BadDeed_BadOrder ?ki_BadDeed_BadSum ?ki_BadDeed_BadWord ?ki_BadDeed_TooMany ?ki_BadDeed_BadPowers ?ki_BadDeed_BadCourse ?ki_BadDeed_NotFree ?ki_BadDeed_NotTold ?ki_BadDeed_BadActing ?ki_BadDeed_BadRows ?ki_BadDeed_BadWay ?ki_BadDeed_BadLines ?ki_BadDeed_BadSpread ?ki_BadDeed_BadCell ?ki_BadDeed_NotHere ?ki_BadDeed_NotAlike ?ki_BadDeed_BadDeed ?ki_BadDeed_BadLive ?ki_BadDeed_BadName ?ki_BadDeed_BadText ?ki_BadDeed_NoWatch ?ki_BadDeed_NothingLeft ?kn_BadFilling ?ki_BadFilling_BoxError ?ki_BadFilling_BadPrime ?ki_BadFilling_BadNumber ?ki_BadFilling_BadShape ?ki_BadFilling_BadBox ?ki_BadFilling_BadFilling ?ki_BadFilling_BadOrder ?ki_BadFilling_BadSum ?ki_BadFilling_BadWord ?ki_BadFilling_TooMany ?ki_BadFilling_BadPowers ?ki_BadFilling_BadCourse ?ki_BadFilling_NotFree ?ki_BadFilling_NotTold ?ki_BadFilling_BadActing ?ki_BadFilling_BadRows ?ki_BadFilling_BadWay ?ki_BadFilling_BadLines ?ki_BadFilling_BadSpread ?ki_BadFilling_BadCell ?ki_BadFilling_NotHere ?ki_BadFilling_NotAlike ?ki_BadFilling_BadDeed ?ki_BadFilling_BadLive ?ki_BadFilling_BadName ?ki_BadFilling_BadText ?ki_BadFilling_NoWatch ?ki_BadFilling_NothingLeft ?kn_BadLines ?ki_BadLines_BoxError ?ki_BadLines_BadPrime ?ki_BadLines_BadNumber ?ki_BadLines_BadShape ?ki_BadLines_BadBox ?ki_BadLines_BadFilling ?ki_BadLines_BadOrder ?ki_BadLines_BadSum ?ki_BadLines_BadWord ?ki_BadLines_TooMany ?ki_BadLines_BadPowers ?ki_BadLines_BadCourse ?ki_BadLines_NotFree ?ki_BadLines_NotTold ?ki_BadLines_BadActing ?ki_BadLines_BadRows ?ki_BadLines_BadWay ?ki_BadLines_BadLines ?ki_BadLines_BadSpread ?ki_BadLines_BadCell ?ki_BadLines_NotHere ?ki_BadLines_NotAlike ?ki_BadLines_BadDeed ?ki_BadLines_BadLive ?ki_BadLines_BadName ?ki_BadLines_BadText ?ki_BadLines_NoWatch ?ki_BadLines_NothingLeft ?kn_BadLive ?ki_BadLive_BoxError ?ki_BadLive_BadPrime ?ki_BadLive_BadNumber ?ki_BadLive_BadShape ?ki_BadLive_BadBox ?ki_BadLive_BadFilling ?ki_BadLive_BadOrder ?ki_BadLive_BadSum ?ki_BadLive_BadWord ?ki_BadLive_TooMany ?ki_BadLive_BadPowers ?ki_BadLive_BadCourse ?ki_BadLive_NotFree ?ki_BadLive_NotTold ?ki_BadLive_BadActing ?ki_BadLive_BadRows ?ki_BadLive_BadWay ?ki_BadLive_BadLines ?ki_BadLive_BadSpread ?ki_BadLive_BadCell ?ki_BadLive_NotHere ?ki_BadLive_NotAlike ?ki_BadLive_BadDeed ?ki_BadLive_BadLive ?ki_BadLive_BadName ?ki_BadLive_BadText ?ki_BadLive_NoWatch ?ki_BadLive_NothingLeft ?kn_BadName ?ki_BadName_BoxError ?ki_BadName_BadPrime ?ki_BadName_BadNumber ?ki_BadName_BadShape ?ki_BadName_BadBox ?ki_BadName_BadFilling ?ki_BadName_BadOrder ?ki_BadName_BadSum ?ki_BadName_BadWord ?ki_BadName_TooMany ?ki_BadName_BadPowers ?ki_BadName_BadCourse ?ki_BadName_NotFree ?ki_BadName_NotTold ?ki_BadName_BadActing ?ki_BadName_BadRows ?ki_BadName_BadWay ?ki_BadName_BadLines ?ki_BadName_BadSpread ?ki_BadName_BadCell ?ki_BadName_NotHere ?ki_BadName_NotAlike ?ki_BadName_BadDeed ?ki_BadName_BadLive ?ki_BadName_BadName ?ki_BadName_BadText ?ki_BadName_NoWatch ?ki_BadName_NothingLeft ?kn_BadNumber ?ki_BadNumber_BoxError ?ki_BadNumber_BadPrime ?ki_BadNumber_BadNumber ?ki_BadNumber_BadShape ?ki_BadNumber_BadBox ?ki_BadNumber_BadFilling ?ki_BadNumber_BadOrder ?ki_BadNumber_BadSum ?ki_BadNumber_BadWord ?ki_BadNumber_TooMany ?ki_BadNumber_BadPowers ?ki_BadNumber_BadCourse ?ki_BadNumber_NotFree ?ki_BadNumber_NotTold ?ki_BadNumber_BadActing ?ki_BadNumber_BadRows ?ki_BadNumber_BadWay ?ki_BadNumber_BadLines ?ki_BadNumber_BadSpread ?ki_BadNumber_BadCell ?ki_BadNumber_NotHere ?ki_BadNumber_NotAlike ?ki_BadNumber_BadDeed ?ki_BadNumber_BadLive ?ki_BadNumber_BadName ?ki_BadNumber_BadText ?ki_BadNumber_NoWatch ?ki_BadNumber_NothingLeft ?kn_BadOrder ?ki_BadOrder_BoxError ?ki_BadOrder_BadPrime ?ki_BadOrder_BadNumber ?ki_BadOrder_BadShape ?ki_BadOrder_BadBox ?ki_BadOrder_BadFilling ?ki_BadOrder_BadOrder ?ki_BadOrder_BadSum ?ki_BadOrder_BadWord ?ki_BadOrder_TooMany ?ki_BadOrder_BadPowers ?ki_BadOrder_BadCourse ?ki_BadOrder_NotFree ?ki_BadOrder_NotTold ?ki_BadOrder_BadActing ?ki_BadOrder_BadRows ?ki_BadOrder_BadWay ?ki_BadOrder_BadLines ?ki_BadOrder_BadSpread ?ki_BadOrder_BadCell ?ki_BadOrder_NotHere ?ki_BadOrder_NotAlike ?ki_BadOrder_BadDeed ?ki_BadOrder_BadLive ?ki_BadOrder_BadName ?ki_BadOrder_BadText ?ki_BadOrder_NoWatch ?ki_BadOrder_NothingLeft ?kn_BadPowers ?ki_BadPowers_BoxError ?ki_BadPowers_BadPrime ?ki_BadPowers_BadNumber ?ki_BadPowers_BadShape ?ki_BadPowers_BadBox ?ki_BadPowers_BadFilling ?ki_BadPowers_BadOrder ?ki_BadPowers_BadSum ?ki_BadPowers_BadWord ?ki_BadPowers_TooMany ?ki_BadPowers_BadPowers ?ki_BadPowers_BadCourse ?ki_BadPowers_NotFree ?ki_BadPowers_NotTold ?ki_BadPowers_BadActing ?ki_BadPowers_BadRows ?ki_BadPowers_BadWay ?ki_BadPowers_BadLines ?ki_BadPowers_BadSpread ?ki_BadPowers_BadCell ?ki_BadPowers_NotHere ?ki_BadPowers_NotAlike ?ki_BadPowers_BadDeed ?ki_BadPowers_BadLive ?ki_BadPowers_BadName ?ki_BadPowers_BadText ?ki_BadPowers_NoWatch ?ki_BadPowers_NothingLeft ?kn_BadPrime ?ki_BadPrime_BoxError ?ki_BadPrime_BadPrime ?ki_BadPrime_BadNumber ?ki_BadPrime_BadShape ?ki_BadPrime_BadBox ?ki_BadPrime_BadFilling ?ki_BadPrime_BadOrder ?ki_BadPrime_BadSum ?ki_BadPrime_BadWord ?ki_BadPrime_TooMany ?ki_BadPrime_BadPowers ?ki_BadPrime_BadCourse ?ki_BadPrime_NotFree ?ki_BadPrime_NotTold ?ki_BadPrime_BadActing ?ki_BadPrime_BadRows ?ki_BadPrime_BadWay ?ki_BadPrime_BadLines ?ki_BadPrime_BadSpread ?ki_BadPrime_BadCell ?ki_BadPrime_NotHere ?ki_BadPrime_NotAlike ?ki_BadPrime_BadDeed ?ki_BadPrime_BadLive ?ki_BadPrime_BadName ?ki_BadPrime_BadText ?ki_BadPrime_NoWatch ?ki_BadPrime_NothingLeft ?kn_BadRows ?ki_BadRows_BoxError ?ki_BadRows_BadPrime ?ki_BadRows_BadNumber ?ki_BadRows_BadShape ?ki_BadRows_BadBox ?ki_BadRows_BadFilling ?ki_BadRows_BadOrder ?ki_BadRows_BadSum ?ki_BadRows_BadWord ?ki_BadRows_TooMany ?ki_BadRows_BadPowers ?ki_BadRows_BadCourse ?ki_BadRows_NotFree ?ki_BadRows_NotTold ?ki_BadRows_BadActing ?ki_BadRows_BadRows ?ki_BadRows_BadWay ?ki_BadRows_BadLines ?ki_BadRows_BadSpread ?ki_BadRows_BadCell ?ki_BadRows_NotHere ?ki_BadRows_NotAlike ?ki_BadRows_BadDeed ?ki_BadRows_BadLive ?ki_BadRows_BadName ?ki_BadRows_BadText ?ki_BadRows_NoWatch ?ki_BadRows_NothingLeft ?kn_BadShape ?ki_BadShape_BoxError ?ki_BadShape_BadPrime ?ki_BadShape_BadNumber ?ki_BadShape_BadShape ?ki_BadShape_BadBox ?ki_BadShape_BadFilling ?ki_BadShape_BadOrder ?ki_BadShape_BadSum ?ki_BadShape_BadWord ?ki_BadShape_TooMany ?ki_BadShape_BadPowers ?ki_BadShape_BadCourse ?ki_BadShape_NotFree ?ki_BadShape_NotTold ?ki_BadShape_BadActing ?ki_BadShape_BadRows ?ki_BadShape_BadWay ?ki_BadShape_BadLines ?ki_BadShape_BadSpread ?ki_BadShape_BadCell ?ki_BadShape_NotHere ?ki_BadShape_NotAlike ?ki_BadShape_BadDeed ?ki_BadShape_BadLive ?ki_BadShape_BadName ?ki_BadShape_BadText ?ki_BadShape_NoWatch ?ki_BadShape_NothingLeft ?kn_BadSpread ?ki_BadSpread_BoxError ?ki_BadSpread_BadPrime ?ki_BadSpread_BadNumber ?ki_BadSpread_BadShape ?ki_BadSpread_BadBox ?ki_BadSpread_BadFilling ?ki_BadSpread_BadOrder ?ki_BadSpread_BadSum ?ki_BadSpread_BadWord ?ki_BadSpread_TooMany ?ki_BadSpread_BadPowers ?ki_BadSpread_BadCourse ?ki_BadSpread_NotFree ?ki_BadSpread_NotTold ?ki_BadSpread_BadActing ?ki_BadSpread_BadRows ?ki_BadSpread_BadWay ?ki_BadSpread_BadLines ?ki_BadSpread_BadSpread ?ki_BadSpread_BadCell ?ki_BadSpread_NotHere ?ki_BadSpread_NotAlike ?ki_BadSpread_BadDeed ?ki_BadSpread_BadLive ?ki_BadSpread_BadName ?ki_BadSpread_BadText ?ki_BadSpread_NoWatch ?ki_BadSpread_NothingLeft ?kn_BadSum ?ki_BadSum_BoxError ?ki_BadSum_BadPrime ?ki_BadSum_BadNumber ?ki_BadSum_BadShape ?ki_BadSum_BadBox ?ki_BadSum_BadFilling ?ki_BadSum_BadOrder ?ki_BadSum_BadSum ?ki_BadSum_BadWord ?ki_BadSum_TooMany ?ki_BadSum_BadPowers ?ki_BadSum_BadCourse ?ki_BadSum_NotFree ?ki_BadSum_NotTold ?ki_BadSum_BadActing ?ki_BadSum_BadRows ?ki_BadSum_BadWay ?ki_BadSum_BadLines ?ki_BadSum_BadSpread ?ki_BadSum_BadCell ?ki_BadSum_NotHere ?ki_BadSum_NotAlike ?ki_BadSum_BadDeed ?ki_BadSum_BadLive ?ki_BadSum_BadName ?ki_BadSum_BadText ?ki_BadSum_NoWatch ?ki_BadSum_NothingLeft ?kn_BadText ?ki_BadText_BoxError ?ki_BadText_BadPrime ?ki_BadText_BadNumber ?ki_BadText_BadShape ?ki_BadText_BadBox ?ki_BadText_BadFilling ?ki_BadText_BadOrder ?ki_BadText_BadSum ?ki_BadText_BadWord ?ki_BadText_TooMany ?ki_BadText_BadPowers ?ki_BadText_BadCourse ?ki_BadText_NotFree ?ki_BadText_NotTold ?ki_BadText_BadActing ?ki_BadText_BadRows ?ki_BadText_BadWay ?ki_BadText_BadLines ?ki_BadText_BadSpread ?ki_BadText_BadCell ?ki_BadText_NotHere ?ki_BadText_NotAlike ?ki_BadText_BadDeed ?ki_BadText_BadLive ?ki_BadText_BadName ?ki_BadText_BadText ?ki_BadText_NoWatch ?ki_BadText_NothingLeft ?kn_BadWay ?ki_BadWay_BoxError ?ki_BadWay_BadPrime ?ki_BadWay_BadNumber ?ki_BadWay_BadShape ?ki_BadWay_BadBox ?ki_BadWay_BadFilling ?ki_BadWay_BadOrder ?ki_BadWay_BadSum ?ki_BadWay_BadWord ?ki_BadWay_TooMany ?ki_BadWay_BadPowers ?ki_BadWay_BadCourse ?ki_BadWay_NotFree ?ki_BadWay_NotTold ?ki_BadWay_BadActing ?ki_BadWay_BadRows ?ki_BadWay_BadWay ?ki_BadWay_BadLines ?ki_BadWay_BadSpread ?ki_BadWay_BadCell ?ki_BadWay_NotHere ?ki_BadWay_NotAlike ?ki_BadWay_BadDeed ?ki_BadWay_BadLive ?ki_BadWay_BadName ?ki_BadWay_BadText ?ki_BadWay_NoWatch ?ki_BadWay_NothingLeft ?kn_BadWord ?ki_BadWord_BoxError ?ki_BadWord_BadPrime ?ki_BadWord_BadNumber ?ki_BadWord_BadShape ?ki_BadWord_BadBox ?ki_BadWord_BadFilling ?ki_BadWord_BadOrder ?ki_BadWord_BadSum ?ki_BadWord_BadWord ?ki_BadWord_TooMany ?ki_BadWord_BadPowers ?ki_BadWord_BadCourse ?ki_BadWord_NotFree ?ki_BadWord_NotTold ?ki_BadWord_BadActing ?ki_BadWord_BadRows ?ki_BadWord_BadWay ?ki_BadWord_BadLines ?ki_BadWord_BadSpread ?ki_BadWord_BadCell ?ki_BadWord_NotHere ?ki_BadWord_NotAlike ?ki_BadWord_BadDeed ?ki_BadWord_BadLive ?ki_BadWord_BadName ?ki_BadWord_BadText ?ki_BadWord_NoWatch ?ki_BadWord_NothingLeft ?kn_BoxError ?ki_BoxError_BoxError ?ki_BoxError_BadPrime ?ki_BoxError_BadNumber ?ki_BoxError_BadShape ?ki_BoxError_BadBox ?ki_BoxError_BadFilling ?ki_BoxError_BadOrder ?ki_BoxError_BadSum ?ki_BoxError_BadWord ?ki_BoxError_TooMany ?ki_BoxError_BadPowers ?ki_BoxError_BadCourse ?ki_BoxError_NotFree ?ki_BoxError_NotTold ?ki_BoxError_BadActing ?ki_BoxError_BadRows ?ki_BoxError_BadWay ?ki_BoxError_BadLines ?ki_BoxError_BadSpread ?ki_BoxError_BadCell ?ki_BoxError_NotHere ?ki_BoxError_NotAlike ?ki_BoxError_BadDeed ?ki_BoxError_BadLive ?ki_BoxError_BadName ?ki_BoxError_BadText ?ki_BoxError_NoWatch ?ki_BoxError_NothingLeft ?kn_NoWatch ?ki_NoWatch_BoxError ?ki_NoWatch_BadPrime ?ki_NoWatch_BadNumber ?ki_NoWatch_BadShape ?ki_NoWatch_BadBox ?ki_NoWatch_BadFilling ?ki_NoWatch_BadOrder ?ki_NoWatch_BadSum ?ki_NoWatch_BadWord ?ki_NoWatch_TooMany ?ki_NoWatch_BadPowers ?ki_NoWatch_BadCourse ?ki_NoWatch_NotFree ?ki_NoWatch_NotTold ?ki_NoWatch_BadActing ?ki_NoWatch_BadRows ?ki_NoWatch_BadWay ?ki_NoWatch_BadLines ?ki_NoWatch_BadSpread ?ki_NoWatch_BadCell ?ki_NoWatch_NotHere ?ki_NoWatch_NotAlike ?ki_NoWatch_BadDeed ?ki_NoWatch_BadLive ?ki_NoWatch_BadName ?ki_NoWatch_BadText ?ki_NoWatch_NoWatch ?ki_NoWatch_NothingLeft ?kn_NotAlike ?ki_NotAlike_BoxError ?ki_NotAlike_BadPrime ?ki_NotAlike_BadNumber ?ki_NotAlike_BadShape ?ki_NotAlike_BadBox ?ki_NotAlike_BadFilling ?ki_NotAlike_BadOrder ?ki_NotAlike_BadSum ?ki_NotAlike_BadWord ?ki_NotAlike_TooMany ?ki_NotAlike_BadPowers ?ki_NotAlike_BadCourse ?ki_NotAlike_NotFree ?ki_NotAlike_NotTold ?ki_NotAlike_BadActing ?ki_NotAlike_BadRows ?ki_NotAlike_BadWay ?ki_NotAlike_BadLines ?ki_NotAlike_BadSpread ?ki_NotAlike_BadCell ?ki_NotAlike_NotHere ?ki_NotAlike_NotAlike ?ki_NotAlike_BadDeed ?ki_NotAlike_BadLive ?ki_NotAlike_BadName ?ki_NotAlike_BadText ?ki_NotAlike_NoWatch ?ki_NotAlike_NothingLeft ?kn_NotFree ?ki_NotFree_BoxError ?ki_NotFree_BadPrime ?ki_NotFree_BadNumber ?ki_NotFree_BadShape ?ki_NotFree_BadBox ?ki_NotFree_BadFilling ?ki_NotFree_BadOrder ?ki_NotFree_BadSum ?ki_NotFree_BadWord ?ki_NotFree_TooMany ?ki_NotFree_BadPowers ?ki_NotFree_BadCourse ?ki_NotFree_NotFree ?ki_NotFree_NotTold ?ki_NotFree_BadActing ?ki_NotFree_BadRows ?ki_NotFree_BadWay ?ki_NotFree_BadLines ?ki_NotFree_BadSpread ?ki_NotFree_BadCell ?ki_NotFree_NotHere ?ki_NotFree_NotAlike ?ki_NotFree_BadDeed ?ki_NotFree_BadLive ?ki_NotFree_BadName ?ki_NotFree_BadText ?ki_NotFree_NoWatch ?ki_NotFree_NothingLeft ?kn_NotHere ?ki_NotHere_BoxError ?ki_NotHere_BadPrime ?ki_NotHere_BadNumber ?ki_NotHere_BadShape ?ki_NotHere_BadBox ?ki_NotHere_BadFilling ?ki_NotHere_BadOrder ?ki_NotHere_BadSum ?ki_NotHere_BadWord ?ki_NotHere_TooMany ?ki_NotHere_BadPowers ?ki_NotHere_BadCourse ?ki_NotHere_NotFree ?ki_NotHere_NotTold ?ki_NotHere_BadActing ?ki_NotHere_BadRows ?ki_NotHere_BadWay ?ki_NotHere_BadLines ?ki_NotHere_BadSpread ?ki_NotHere_BadCell ?ki_NotHere_NotHere ?ki_NotHere_NotAlike ?ki_NotHere_BadDeed ?ki_NotHere_BadLive ?ki_NotHere_BadName ?ki_NotHere_BadText ?ki_NotHere_NoWatch ?ki_NotHere_NothingLeft ?kn_NotTold ?ki_NotTold_BoxError ?ki_NotTold_BadPrime ?ki_NotTold_BadNumber ?ki_NotTold_BadShape ?ki_NotTold_BadBox ?ki_NotTold_BadFilling ?ki_NotTold_BadOrder ?ki_NotTold_BadSum ?ki_NotTold_BadWord ?ki_NotTold_TooMany ?ki_NotTold_BadPowers ?ki_NotTold_BadCourse ?ki_NotTold_NotFree ?ki_NotTold_NotTold ?ki_NotTold_BadActing ?ki_NotTold_BadRows ?ki_NotTold_BadWay ?ki_NotTold_BadLines ?ki_NotTold_BadSpread ?ki_NotTold_BadCell ?ki_NotTold_NotHere ?ki_NotTold_NotAlike ?ki_NotTold_BadDeed ?ki_NotTold_BadLive ?ki_NotTold_BadName ?ki_NotTold_BadText ?ki_NotTold_NoWatch ?ki_NotTold_NothingLeft ?kn_NothingLeft ?ki_NothingLeft_BoxError ?ki_NothingLeft_BadPrime ?ki_NothingLeft_BadNumber ?ki_NothingLeft_BadShape ?ki_NothingLeft_BadBox ?ki_NothingLeft_BadFilling ?ki_NothingLeft_BadOrder ?ki_NothingLeft_BadSum ?ki_NothingLeft_BadWord ?ki_NothingLeft_TooMany ?ki_NothingLeft_BadPowers ?ki_NothingLeft_BadCourse ?ki_NothingLeft_NotFree ?ki_NothingLeft_NotTold ?ki_NothingLeft_BadActing ?ki_NothingLeft_BadRows ?ki_NothingLeft_BadWay ?ki_NothingLeft_BadLines ?ki_NothingLeft_BadSpread ?ki_NothingLeft_BadCell ?ki_NothingLeft_NotHere ?ki_NothingLeft_NotAlike ?ki_NothingLeft_BadDeed ?ki_NothingLeft_BadLive ?ki_NothingLeft_BadName ?ki_NothingLeft_BadText ?ki_NothingLeft_NoWatch ?ki_NothingLeft_NothingLeft ?kn_TooMany ?ki_TooMany_BoxError ?ki_TooMany_BadPrime ?ki_TooMany_BadNumber ?ki_TooMany_BadShape ?ki_TooMany_BadBox ?ki_TooMany_BadFilling ?ki_TooMany_BadOrder ?ki_TooMany_BadSum ?ki_TooMany_BadWord ?ki_TooMany_TooMany ?ki_TooMany_BadPowers ?ki_TooMany_BadCourse ?ki_TooMany_NotFree ?ki_TooMany_NotTold ?ki_TooMany_BadActing ?ki_TooMany_BadRows ?ki_TooMany_BadWay ?ki_TooMany_BadLines ?ki_TooMany_BadSpread ?ki_TooMany_BadCell ?ki_TooMany_NotHere ?ki_TooMany_NotAlike ?ki_TooMany_BadDeed ?ki_TooMany_BadLive ?ki_TooMany_BadName ?ki_TooMany_BadText ?ki_TooMany_NoWatch ?ki_TooMany_NothingLeft ?kb_ValueError_BoxError ?kb_ValueError_BadPrime ?kb_ValueError_BadNumber ?kb_ValueError_BadShape ?kb_ValueError_BadBox ?kb_ValueError_BadFilling ?kb_ValueError_BadOrder ?kb_ValueError_BadSum ?kb_ValueError_BadWord ?kb_ValueError_TooMany ?kb_ValueError_BadPowers ?kb_ValueError_BadCourse ?kb_ValueError_NotFree ?kb_ValueError_NotTold ?kb_ValueError_BadActing ?kb_ValueError_BadRows ?kb_ValueError_BadWay ?kb_ValueError_BadLines ?kb_ValueError_BadSpread ?kb_ValueError_BadCell ?kb_ValueError_NotHere ?kb_ValueError_NotAlike ?kb_ValueError_BadDeed ?kb_ValueError_BadLive ?kb_ValueError_BadName ?kb_ValueError_BadText ?kb_ValueError_NoWatch ?kb_ValueError_NothingLeft ?ft
    (case n__law_begun => k_is)
    (case l__law_begun => k_is)
    (case c__law_begun => k_is)
    (case k__law_begun => k_is)
    (case n__law_mixed => k_is)
    (case l__law_mixed => k_is)
    (case c__law_mixed => k_is)
    (case k__law_mixed => k_is)
    (case n__law_take => k_is)
    (case l__law_take => k_is)
    (case c__law_take => k_is)
    (case k__law_take => k_is)
    (case n__law_pick => k_is)
    (case l__law_pick => k_is)
    (case c__law_pick => k_is)
    (case k__law_pick => k_is)
    (case n__law_any => k_is)
    (case l__law_any => k_is)
    (case c__law_any => k_is)
    (case k__law_any => k_is)
    (case n__law_kinds => k_is)
    (case l__law_kinds => k_is)
    (case c__law_kinds => k_is)
    (case k__law_kinds => k_is)
    (case n__law_plain_errors => k_is)
    (case l__law_plain_errors => k_is)
    (case c__law_plain_errors => k_is)
    (case k__law_plain_errors => k_is)
    (case n__law_errors_of => k_is)
    (case l__law_errors_of => k_is)
    (case c__law_errors_of => k_is)
    (case k__law_errors_of => k_is)
    (case n_law => k_is)
    (case l_law => k_is)
    (case c_law => k_is)
    (case k_law => k_is)
    (case z_ValueError => k_is)
    (case z_abs => k_is)
    (case z_enumerate => k_is)
    (case z_int => k_is)
    (case z_isinstance => k_is)
    (case z_len => k_is)
    (case z_range => k_is)
    (case z_repr => k_is)
    (case z_super => k_is)
    (case eN => k_is)
    (case eT => k_is)
    (case eA => k_is)
    (case n_BoxError => k_is)
    (case ec1_BoxError => k_is)
    (case ec2_BoxError => k_is)
    (case ec3_BoxError => k_is)
    (case ec4_BoxError => k_is)
    (case ec5_BoxError => k_is)
    (case ec6_BoxError => k_is)
    (case ec7_BoxError => k_is)
    (case ec8_BoxError => k_is)
    (case ec9_BoxError => k_is)
    (case b_BoxError => first | rfl | k_is)
    (case x1_BoxError => k_exc)
    (case n_BadPrime => k_is)
    (case ec1_BadPrime => k_is)
    (case ec2_BadPrime => k_is)
    (case ec3_BadPrime => k_is)
    (case ec4_BadPrime => k_is)
    (case ec5_BadPrime => k_is)
    (case ec6_BadPrime => k_is)
    (case ec7_BadPrime => k_is)
    (case ec8_BadPrime => k_is)
    (case ec9_BadPrime => k_is)
    (case b_BadPrime => first | rfl | k_is)
    (case x1_BadPrime => k_exc)
    (case n_BadNumber => k_is)
    (case ec1_BadNumber => k_is)
    (case ec2_BadNumber => k_is)
    (case ec3_BadNumber => k_is)
    (case ec4_BadNumber => k_is)
    (case ec5_BadNumber => k_is)
    (case ec6_BadNumber => k_is)
    (case ec7_BadNumber => k_is)
    (case ec8_BadNumber => k_is)
    (case ec9_BadNumber => k_is)
    (case b_BadNumber => first | rfl | k_is)
    (case L_BadNumber => k_is)
    (case rb_BadNumber => decide +kernel)
    (case sa_BadNumber => k_is)
    (case nf_BadNumber => k_is)
    (case ii_BadNumber => k_is)
    (case it_BadNumber => k_is)
    (case il_BadNumber => k_is)
    (case ic_BadNumber => k_is)
    (case cl1_BadNumber => k_is)
    (case cf_BadNumber => rfl)
    (case ce_BadNumber => decide +kernel)
    (case kc_BadNumber => k_is)
    (case m1_BadNumber => k_is)
    (case su_BadNumber => first | ks_is | kernel_rfl)
    (case ve_BadNumber => k_is)
    (case n_BadShape => k_is)
    (case ec1_BadShape => k_is)
    (case ec2_BadShape => k_is)
    (case ec3_BadShape => k_is)
    (case ec4_BadShape => k_is)
    (case ec5_BadShape => k_is)
    (case ec6_BadShape => k_is)
    (case ec7_BadShape => k_is)
    (case ec8_BadShape => k_is)
    (case ec9_BadShape => k_is)
    (case b_BadShape => first | rfl | k_is)
    (case x1_BadShape => k_exc)
    (case n_BadBox => k_is)
    (case ec1_BadBox => k_is)
    (case ec2_BadBox => k_is)
    (case ec3_BadBox => k_is)
    (case ec4_BadBox => k_is)
    (case ec5_BadBox => k_is)
    (case ec6_BadBox => k_is)
    (case ec7_BadBox => k_is)
    (case ec8_BadBox => k_is)
    (case ec9_BadBox => k_is)
    (case b_BadBox => first | rfl | k_is)
    (case x1_BadBox => k_exc)
    (case n_BadFilling => k_is)
    (case ec1_BadFilling => k_is)
    (case ec2_BadFilling => k_is)
    (case ec3_BadFilling => k_is)
    (case ec4_BadFilling => k_is)
    (case ec5_BadFilling => k_is)
    (case ec6_BadFilling => k_is)
    (case ec7_BadFilling => k_is)
    (case ec8_BadFilling => k_is)
    (case ec9_BadFilling => k_is)
    (case b_BadFilling => first | rfl | k_is)
    (case x1_BadFilling => k_exc)
    (case n_BadOrder => k_is)
    (case ec1_BadOrder => k_is)
    (case ec2_BadOrder => k_is)
    (case ec3_BadOrder => k_is)
    (case ec4_BadOrder => k_is)
    (case ec5_BadOrder => k_is)
    (case ec6_BadOrder => k_is)
    (case ec7_BadOrder => k_is)
    (case ec8_BadOrder => k_is)
    (case ec9_BadOrder => k_is)
    (case b_BadOrder => first | rfl | k_is)
    (case x1_BadOrder => k_exc)
    (case n_BadSum => k_is)
    (case ec1_BadSum => k_is)
    (case ec2_BadSum => k_is)
    (case ec3_BadSum => k_is)
    (case ec4_BadSum => k_is)
    (case ec5_BadSum => k_is)
    (case ec6_BadSum => k_is)
    (case ec7_BadSum => k_is)
    (case ec8_BadSum => k_is)
    (case ec9_BadSum => k_is)
    (case b_BadSum => first | rfl | k_is)
    (case x1_BadSum => k_exc)
    (case n_BadWord => k_is)
    (case ec1_BadWord => k_is)
    (case ec2_BadWord => k_is)
    (case ec3_BadWord => k_is)
    (case ec4_BadWord => k_is)
    (case ec5_BadWord => k_is)
    (case ec6_BadWord => k_is)
    (case ec7_BadWord => k_is)
    (case ec8_BadWord => k_is)
    (case ec9_BadWord => k_is)
    (case b_BadWord => first | rfl | k_is)
    (case x1_BadWord => k_exc)
    (case n_TooMany => k_is)
    (case ec1_TooMany => k_is)
    (case ec2_TooMany => k_is)
    (case ec3_TooMany => k_is)
    (case ec4_TooMany => k_is)
    (case ec5_TooMany => k_is)
    (case ec6_TooMany => k_is)
    (case ec7_TooMany => k_is)
    (case ec8_TooMany => k_is)
    (case ec9_TooMany => k_is)
    (case b_TooMany => first | rfl | k_is)
    (case L_TooMany => k_is)
    (case rb_TooMany => decide +kernel)
    (case sa_TooMany => k_is)
    (case nf_TooMany => k_is)
    (case ii_TooMany => k_is)
    (case it_TooMany => k_is)
    (case il_TooMany => k_is)
    (case ic_TooMany => k_is)
    (case cl1_TooMany => k_is)
    (case cf_TooMany => rfl)
    (case ce_TooMany => decide +kernel)
    (case kc_TooMany => k_is)
    (case m1_TooMany => k_is)
    (case su_TooMany => first | ks_is | kernel_rfl)
    (case ve_TooMany => k_is)
    (case n_BadPowers => k_is)
    (case ec1_BadPowers => k_is)
    (case ec2_BadPowers => k_is)
    (case ec3_BadPowers => k_is)
    (case ec4_BadPowers => k_is)
    (case ec5_BadPowers => k_is)
    (case ec6_BadPowers => k_is)
    (case ec7_BadPowers => k_is)
    (case ec8_BadPowers => k_is)
    (case ec9_BadPowers => k_is)
    (case b_BadPowers => first | rfl | k_is)
    (case x1_BadPowers => k_exc)
    (case n_BadCourse => k_is)
    (case ec1_BadCourse => k_is)
    (case ec2_BadCourse => k_is)
    (case ec3_BadCourse => k_is)
    (case ec4_BadCourse => k_is)
    (case ec5_BadCourse => k_is)
    (case ec6_BadCourse => k_is)
    (case ec7_BadCourse => k_is)
    (case ec8_BadCourse => k_is)
    (case ec9_BadCourse => k_is)
    (case b_BadCourse => first | rfl | k_is)
    (case x1_BadCourse => k_exc)
    (case n_NotFree => k_is)
    (case ec1_NotFree => k_is)
    (case ec2_NotFree => k_is)
    (case ec3_NotFree => k_is)
    (case ec4_NotFree => k_is)
    (case ec5_NotFree => k_is)
    (case ec6_NotFree => k_is)
    (case ec7_NotFree => k_is)
    (case ec8_NotFree => k_is)
    (case ec9_NotFree => k_is)
    (case b_NotFree => first | rfl | k_is)
    (case x1_NotFree => k_exc)
    (case n_NotTold => k_is)
    (case ec1_NotTold => k_is)
    (case ec2_NotTold => k_is)
    (case ec3_NotTold => k_is)
    (case ec4_NotTold => k_is)
    (case ec5_NotTold => k_is)
    (case ec6_NotTold => k_is)
    (case ec7_NotTold => k_is)
    (case ec8_NotTold => k_is)
    (case ec9_NotTold => k_is)
    (case b_NotTold => first | rfl | k_is)
    (case x1_NotTold => k_exc)
    (case n_BadActing => k_is)
    (case ec1_BadActing => k_is)
    (case ec2_BadActing => k_is)
    (case ec3_BadActing => k_is)
    (case ec4_BadActing => k_is)
    (case ec5_BadActing => k_is)
    (case ec6_BadActing => k_is)
    (case ec7_BadActing => k_is)
    (case ec8_BadActing => k_is)
    (case ec9_BadActing => k_is)
    (case b_BadActing => first | rfl | k_is)
    (case L_BadActing => k_is)
    (case rb_BadActing => decide +kernel)
    (case sa_BadActing => k_is)
    (case nf_BadActing => k_is)
    (case ii_BadActing => k_is)
    (case it_BadActing => k_is)
    (case il_BadActing => k_is)
    (case ic_BadActing => k_is)
    (case cl1_BadActing => k_is)
    (case cf_BadActing => rfl)
    (case ce_BadActing => decide +kernel)
    (case kc_BadActing => k_is)
    (case m1_BadActing => k_is)
    (case su_BadActing => first | ks_is | kernel_rfl)
    (case ve_BadActing => k_is)
    (case n_BadRows => k_is)
    (case ec1_BadRows => k_is)
    (case ec2_BadRows => k_is)
    (case ec3_BadRows => k_is)
    (case ec4_BadRows => k_is)
    (case ec5_BadRows => k_is)
    (case ec6_BadRows => k_is)
    (case ec7_BadRows => k_is)
    (case ec8_BadRows => k_is)
    (case ec9_BadRows => k_is)
    (case b_BadRows => first | rfl | k_is)
    (case x1_BadRows => k_exc)
    (case n_BadWay => k_is)
    (case ec1_BadWay => k_is)
    (case ec2_BadWay => k_is)
    (case ec3_BadWay => k_is)
    (case ec4_BadWay => k_is)
    (case ec5_BadWay => k_is)
    (case ec6_BadWay => k_is)
    (case ec7_BadWay => k_is)
    (case ec8_BadWay => k_is)
    (case ec9_BadWay => k_is)
    (case b_BadWay => first | rfl | k_is)
    (case x1_BadWay => k_exc)
    (case n_BadLines => k_is)
    (case ec1_BadLines => k_is)
    (case ec2_BadLines => k_is)
    (case ec3_BadLines => k_is)
    (case ec4_BadLines => k_is)
    (case ec5_BadLines => k_is)
    (case ec6_BadLines => k_is)
    (case ec7_BadLines => k_is)
    (case ec8_BadLines => k_is)
    (case ec9_BadLines => k_is)
    (case b_BadLines => first | rfl | k_is)
    (case x1_BadLines => k_exc)
    (case n_BadSpread => k_is)
    (case ec1_BadSpread => k_is)
    (case ec2_BadSpread => k_is)
    (case ec3_BadSpread => k_is)
    (case ec4_BadSpread => k_is)
    (case ec5_BadSpread => k_is)
    (case ec6_BadSpread => k_is)
    (case ec7_BadSpread => k_is)
    (case ec8_BadSpread => k_is)
    (case ec9_BadSpread => k_is)
    (case b_BadSpread => first | rfl | k_is)
    (case x1_BadSpread => k_exc)
    (case n_BadCell => k_is)
    (case ec1_BadCell => k_is)
    (case ec2_BadCell => k_is)
    (case ec3_BadCell => k_is)
    (case ec4_BadCell => k_is)
    (case ec5_BadCell => k_is)
    (case ec6_BadCell => k_is)
    (case ec7_BadCell => k_is)
    (case ec8_BadCell => k_is)
    (case ec9_BadCell => k_is)
    (case b_BadCell => first | rfl | k_is)
    (case x1_BadCell => k_exc)
    (case n_NotHere => k_is)
    (case ec1_NotHere => k_is)
    (case ec2_NotHere => k_is)
    (case ec3_NotHere => k_is)
    (case ec4_NotHere => k_is)
    (case ec5_NotHere => k_is)
    (case ec6_NotHere => k_is)
    (case ec7_NotHere => k_is)
    (case ec8_NotHere => k_is)
    (case ec9_NotHere => k_is)
    (case b_NotHere => first | rfl | k_is)
    (case x1_NotHere => k_exc)
    (case n_NotAlike => k_is)
    (case ec1_NotAlike => k_is)
    (case ec2_NotAlike => k_is)
    (case ec3_NotAlike => k_is)
    (case ec4_NotAlike => k_is)
    (case ec5_NotAlike => k_is)
    (case ec6_NotAlike => k_is)
    (case ec7_NotAlike => k_is)
    (case ec8_NotAlike => k_is)
    (case ec9_NotAlike => k_is)
    (case b_NotAlike => first | rfl | k_is)
    (case x1_NotAlike => k_exc)
    (case n_BadDeed => k_is)
    (case ec1_BadDeed => k_is)
    (case ec2_BadDeed => k_is)
    (case ec3_BadDeed => k_is)
    (case ec4_BadDeed => k_is)
    (case ec5_BadDeed => k_is)
    (case ec6_BadDeed => k_is)
    (case ec7_BadDeed => k_is)
    (case ec8_BadDeed => k_is)
    (case ec9_BadDeed => k_is)
    (case b_BadDeed => first | rfl | k_is)
    (case x1_BadDeed => k_exc)
    (case n_BadLive => k_is)
    (case ec1_BadLive => k_is)
    (case ec2_BadLive => k_is)
    (case ec3_BadLive => k_is)
    (case ec4_BadLive => k_is)
    (case ec5_BadLive => k_is)
    (case ec6_BadLive => k_is)
    (case ec7_BadLive => k_is)
    (case ec8_BadLive => k_is)
    (case ec9_BadLive => k_is)
    (case b_BadLive => first | rfl | k_is)
    (case x1_BadLive => k_exc)
    (case n_BadName => k_is)
    (case ec1_BadName => k_is)
    (case ec2_BadName => k_is)
    (case ec3_BadName => k_is)
    (case ec4_BadName => k_is)
    (case ec5_BadName => k_is)
    (case ec6_BadName => k_is)
    (case ec7_BadName => k_is)
    (case ec8_BadName => k_is)
    (case ec9_BadName => k_is)
    (case b_BadName => first | rfl | k_is)
    (case x1_BadName => k_exc)
    (case n_BadText => k_is)
    (case ec1_BadText => k_is)
    (case ec2_BadText => k_is)
    (case ec3_BadText => k_is)
    (case ec4_BadText => k_is)
    (case ec5_BadText => k_is)
    (case ec6_BadText => k_is)
    (case ec7_BadText => k_is)
    (case ec8_BadText => k_is)
    (case ec9_BadText => k_is)
    (case b_BadText => first | rfl | k_is)
    (case L_BadText => k_is)
    (case rb_BadText => decide +kernel)
    (case sa_BadText => k_is)
    (case nf_BadText => k_is)
    (case ii_BadText => k_is)
    (case it_BadText => k_is)
    (case il_BadText => k_is)
    (case ic_BadText => k_is)
    (case cl1_BadText => k_is)
    (case cf_BadText => rfl)
    (case ce_BadText => decide +kernel)
    (case kc_BadText => k_is)
    (case m1_BadText => k_is)
    (case su_BadText => first | ks_is | kernel_rfl)
    (case ve_BadText => k_is)
    (case n_NoWatch => k_is)
    (case ec1_NoWatch => k_is)
    (case ec2_NoWatch => k_is)
    (case ec3_NoWatch => k_is)
    (case ec4_NoWatch => k_is)
    (case ec5_NoWatch => k_is)
    (case ec6_NoWatch => k_is)
    (case ec7_NoWatch => k_is)
    (case ec8_NoWatch => k_is)
    (case ec9_NoWatch => k_is)
    (case b_NoWatch => first | rfl | k_is)
    (case L_NoWatch => k_is)
    (case rb_NoWatch => decide +kernel)
    (case sa_NoWatch => k_is)
    (case nf_NoWatch => k_is)
    (case ii_NoWatch => k_is)
    (case it_NoWatch => k_is)
    (case il_NoWatch => k_is)
    (case ic_NoWatch => k_is)
    (case cl1_NoWatch => k_is)
    (case cf_NoWatch => rfl)
    (case ce_NoWatch => decide +kernel)
    (case kc_NoWatch => k_is)
    (case m1_NoWatch => k_is)
    (case su_NoWatch => first | ks_is | kernel_rfl)
    (case ve_NoWatch => k_is)
    (case n_NothingLeft => k_is)
    (case ec1_NothingLeft => k_is)
    (case ec2_NothingLeft => k_is)
    (case ec3_NothingLeft => k_is)
    (case ec4_NothingLeft => k_is)
    (case ec5_NothingLeft => k_is)
    (case ec6_NothingLeft => k_is)
    (case ec7_NothingLeft => k_is)
    (case ec8_NothingLeft => k_is)
    (case ec9_NothingLeft => k_is)
    (case b_NothingLeft => first | rfl | k_is)
    (case x1_NothingLeft => k_exc)
    (case kn_BadActing => first | kit_is | kernel_rfl)
    (case ki_BadActing_BoxError => first | kit_is | kernel_rfl)
    (case ki_BadActing_BadPrime => first | kit_is | kernel_rfl)
    (case ki_BadActing_BadNumber => first | kit_is | kernel_rfl)
    (case ki_BadActing_BadShape => first | kit_is | kernel_rfl)
    (case ki_BadActing_BadBox => first | kit_is | kernel_rfl)
    (case ki_BadActing_BadFilling => first | kit_is | kernel_rfl)
    (case ki_BadActing_BadOrder => first | kit_is | kernel_rfl)
    (case ki_BadActing_BadSum => first | kit_is | kernel_rfl)
    (case ki_BadActing_BadWord => first | kit_is | kernel_rfl)
    (case ki_BadActing_TooMany => first | kit_is | kernel_rfl)
    (case ki_BadActing_BadPowers => first | kit_is | kernel_rfl)
    (case ki_BadActing_BadCourse => first | kit_is | kernel_rfl)
    (case ki_BadActing_NotFree => first | kit_is | kernel_rfl)
    (case ki_BadActing_NotTold => first | kit_is | kernel_rfl)
    (case ki_BadActing_BadActing => first | kit_is | kernel_rfl)
    (case ki_BadActing_BadRows => first | kit_is | kernel_rfl)
    (case ki_BadActing_BadWay => first | kit_is | kernel_rfl)
    (case ki_BadActing_BadLines => first | kit_is | kernel_rfl)
    (case ki_BadActing_BadSpread => first | kit_is | kernel_rfl)
    (case ki_BadActing_BadCell => first | kit_is | kernel_rfl)
    (case ki_BadActing_NotHere => first | kit_is | kernel_rfl)
    (case ki_BadActing_NotAlike => first | kit_is | kernel_rfl)
    (case ki_BadActing_BadDeed => first | kit_is | kernel_rfl)
    (case ki_BadActing_BadLive => first | kit_is | kernel_rfl)
    (case ki_BadActing_BadName => first | kit_is | kernel_rfl)
    (case ki_BadActing_BadText => first | kit_is | kernel_rfl)
    (case ki_BadActing_NoWatch => first | kit_is | kernel_rfl)
    (case ki_BadActing_NothingLeft => first | kit_is | kernel_rfl)
    (case kn_BadBox => first | kit_is | kernel_rfl)
    (case ki_BadBox_BoxError => first | kit_is | kernel_rfl)
    (case ki_BadBox_BadPrime => first | kit_is | kernel_rfl)
    (case ki_BadBox_BadNumber => first | kit_is | kernel_rfl)
    (case ki_BadBox_BadShape => first | kit_is | kernel_rfl)
    (case ki_BadBox_BadBox => first | kit_is | kernel_rfl)
    (case ki_BadBox_BadFilling => first | kit_is | kernel_rfl)
    (case ki_BadBox_BadOrder => first | kit_is | kernel_rfl)
    (case ki_BadBox_BadSum => first | kit_is | kernel_rfl)
    (case ki_BadBox_BadWord => first | kit_is | kernel_rfl)
    (case ki_BadBox_TooMany => first | kit_is | kernel_rfl)
    (case ki_BadBox_BadPowers => first | kit_is | kernel_rfl)
    (case ki_BadBox_BadCourse => first | kit_is | kernel_rfl)
    (case ki_BadBox_NotFree => first | kit_is | kernel_rfl)
    (case ki_BadBox_NotTold => first | kit_is | kernel_rfl)
    (case ki_BadBox_BadActing => first | kit_is | kernel_rfl)
    (case ki_BadBox_BadRows => first | kit_is | kernel_rfl)
    (case ki_BadBox_BadWay => first | kit_is | kernel_rfl)
    (case ki_BadBox_BadLines => first | kit_is | kernel_rfl)
    (case ki_BadBox_BadSpread => first | kit_is | kernel_rfl)
    (case ki_BadBox_BadCell => first | kit_is | kernel_rfl)
    (case ki_BadBox_NotHere => first | kit_is | kernel_rfl)
    (case ki_BadBox_NotAlike => first | kit_is | kernel_rfl)
    (case ki_BadBox_BadDeed => first | kit_is | kernel_rfl)
    (case ki_BadBox_BadLive => first | kit_is | kernel_rfl)
    (case ki_BadBox_BadName => first | kit_is | kernel_rfl)
    (case ki_BadBox_BadText => first | kit_is | kernel_rfl)
    (case ki_BadBox_NoWatch => first | kit_is | kernel_rfl)
    (case ki_BadBox_NothingLeft => first | kit_is | kernel_rfl)
    (case kn_BadCell => first | kit_is | kernel_rfl)
    (case ki_BadCell_BoxError => first | kit_is | kernel_rfl)
    (case ki_BadCell_BadPrime => first | kit_is | kernel_rfl)
    (case ki_BadCell_BadNumber => first | kit_is | kernel_rfl)
    (case ki_BadCell_BadShape => first | kit_is | kernel_rfl)
    (case ki_BadCell_BadBox => first | kit_is | kernel_rfl)
    (case ki_BadCell_BadFilling => first | kit_is | kernel_rfl)
    (case ki_BadCell_BadOrder => first | kit_is | kernel_rfl)
    (case ki_BadCell_BadSum => first | kit_is | kernel_rfl)
    (case ki_BadCell_BadWord => first | kit_is | kernel_rfl)
    (case ki_BadCell_TooMany => first | kit_is | kernel_rfl)
    (case ki_BadCell_BadPowers => first | kit_is | kernel_rfl)
    (case ki_BadCell_BadCourse => first | kit_is | kernel_rfl)
    (case ki_BadCell_NotFree => first | kit_is | kernel_rfl)
    (case ki_BadCell_NotTold => first | kit_is | kernel_rfl)
    (case ki_BadCell_BadActing => first | kit_is | kernel_rfl)
    (case ki_BadCell_BadRows => first | kit_is | kernel_rfl)
    (case ki_BadCell_BadWay => first | kit_is | kernel_rfl)
    (case ki_BadCell_BadLines => first | kit_is | kernel_rfl)
    (case ki_BadCell_BadSpread => first | kit_is | kernel_rfl)
    (case ki_BadCell_BadCell => first | kit_is | kernel_rfl)
    (case ki_BadCell_NotHere => first | kit_is | kernel_rfl)
    (case ki_BadCell_NotAlike => first | kit_is | kernel_rfl)
    (case ki_BadCell_BadDeed => first | kit_is | kernel_rfl)
    (case ki_BadCell_BadLive => first | kit_is | kernel_rfl)
    (case ki_BadCell_BadName => first | kit_is | kernel_rfl)
    (case ki_BadCell_BadText => first | kit_is | kernel_rfl)
    (case ki_BadCell_NoWatch => first | kit_is | kernel_rfl)
    (case ki_BadCell_NothingLeft => first | kit_is | kernel_rfl)
    (case kn_BadCourse => first | kit_is | kernel_rfl)
    (case ki_BadCourse_BoxError => first | kit_is | kernel_rfl)
    (case ki_BadCourse_BadPrime => first | kit_is | kernel_rfl)
    (case ki_BadCourse_BadNumber => first | kit_is | kernel_rfl)
    (case ki_BadCourse_BadShape => first | kit_is | kernel_rfl)
    (case ki_BadCourse_BadBox => first | kit_is | kernel_rfl)
    (case ki_BadCourse_BadFilling => first | kit_is | kernel_rfl)
    (case ki_BadCourse_BadOrder => first | kit_is | kernel_rfl)
    (case ki_BadCourse_BadSum => first | kit_is | kernel_rfl)
    (case ki_BadCourse_BadWord => first | kit_is | kernel_rfl)
    (case ki_BadCourse_TooMany => first | kit_is | kernel_rfl)
    (case ki_BadCourse_BadPowers => first | kit_is | kernel_rfl)
    (case ki_BadCourse_BadCourse => first | kit_is | kernel_rfl)
    (case ki_BadCourse_NotFree => first | kit_is | kernel_rfl)
    (case ki_BadCourse_NotTold => first | kit_is | kernel_rfl)
    (case ki_BadCourse_BadActing => first | kit_is | kernel_rfl)
    (case ki_BadCourse_BadRows => first | kit_is | kernel_rfl)
    (case ki_BadCourse_BadWay => first | kit_is | kernel_rfl)
    (case ki_BadCourse_BadLines => first | kit_is | kernel_rfl)
    (case ki_BadCourse_BadSpread => first | kit_is | kernel_rfl)
    (case ki_BadCourse_BadCell => first | kit_is | kernel_rfl)
    (case ki_BadCourse_NotHere => first | kit_is | kernel_rfl)
    (case ki_BadCourse_NotAlike => first | kit_is | kernel_rfl)
    (case ki_BadCourse_BadDeed => first | kit_is | kernel_rfl)
    (case ki_BadCourse_BadLive => first | kit_is | kernel_rfl)
    (case ki_BadCourse_BadName => first | kit_is | kernel_rfl)
    (case ki_BadCourse_BadText => first | kit_is | kernel_rfl)
    (case ki_BadCourse_NoWatch => first | kit_is | kernel_rfl)
    (case ki_BadCourse_NothingLeft => first | kit_is | kernel_rfl)
    (case kn_BadDeed => first | kit_is | kernel_rfl)
    (case ki_BadDeed_BoxError => first | kit_is | kernel_rfl)
    (case ki_BadDeed_BadPrime => first | kit_is | kernel_rfl)
    (case ki_BadDeed_BadNumber => first | kit_is | kernel_rfl)
    (case ki_BadDeed_BadShape => first | kit_is | kernel_rfl)
    (case ki_BadDeed_BadBox => first | kit_is | kernel_rfl)
    (case ki_BadDeed_BadFilling => first | kit_is | kernel_rfl)
    (case ki_BadDeed_BadOrder => first | kit_is | kernel_rfl)
    (case ki_BadDeed_BadSum => first | kit_is | kernel_rfl)
    (case ki_BadDeed_BadWord => first | kit_is | kernel_rfl)
    (case ki_BadDeed_TooMany => first | kit_is | kernel_rfl)
    (case ki_BadDeed_BadPowers => first | kit_is | kernel_rfl)
    (case ki_BadDeed_BadCourse => first | kit_is | kernel_rfl)
    (case ki_BadDeed_NotFree => first | kit_is | kernel_rfl)
    (case ki_BadDeed_NotTold => first | kit_is | kernel_rfl)
    (case ki_BadDeed_BadActing => first | kit_is | kernel_rfl)
    (case ki_BadDeed_BadRows => first | kit_is | kernel_rfl)
    (case ki_BadDeed_BadWay => first | kit_is | kernel_rfl)
    (case ki_BadDeed_BadLines => first | kit_is | kernel_rfl)
    (case ki_BadDeed_BadSpread => first | kit_is | kernel_rfl)
    (case ki_BadDeed_BadCell => first | kit_is | kernel_rfl)
    (case ki_BadDeed_NotHere => first | kit_is | kernel_rfl)
    (case ki_BadDeed_NotAlike => first | kit_is | kernel_rfl)
    (case ki_BadDeed_BadDeed => first | kit_is | kernel_rfl)
    (case ki_BadDeed_BadLive => first | kit_is | kernel_rfl)
    (case ki_BadDeed_BadName => first | kit_is | kernel_rfl)
    (case ki_BadDeed_BadText => first | kit_is | kernel_rfl)
    (case ki_BadDeed_NoWatch => first | kit_is | kernel_rfl)
    (case ki_BadDeed_NothingLeft => first | kit_is | kernel_rfl)
    (case kn_BadFilling => first | kit_is | kernel_rfl)
    (case ki_BadFilling_BoxError => first | kit_is | kernel_rfl)
    (case ki_BadFilling_BadPrime => first | kit_is | kernel_rfl)
    (case ki_BadFilling_BadNumber => first | kit_is | kernel_rfl)
    (case ki_BadFilling_BadShape => first | kit_is | kernel_rfl)
    (case ki_BadFilling_BadBox => first | kit_is | kernel_rfl)
    (case ki_BadFilling_BadFilling => first | kit_is | kernel_rfl)
    (case ki_BadFilling_BadOrder => first | kit_is | kernel_rfl)
    (case ki_BadFilling_BadSum => first | kit_is | kernel_rfl)
    (case ki_BadFilling_BadWord => first | kit_is | kernel_rfl)
    (case ki_BadFilling_TooMany => first | kit_is | kernel_rfl)
    (case ki_BadFilling_BadPowers => first | kit_is | kernel_rfl)
    (case ki_BadFilling_BadCourse => first | kit_is | kernel_rfl)
    (case ki_BadFilling_NotFree => first | kit_is | kernel_rfl)
    (case ki_BadFilling_NotTold => first | kit_is | kernel_rfl)
    (case ki_BadFilling_BadActing => first | kit_is | kernel_rfl)
    (case ki_BadFilling_BadRows => first | kit_is | kernel_rfl)
    (case ki_BadFilling_BadWay => first | kit_is | kernel_rfl)
    (case ki_BadFilling_BadLines => first | kit_is | kernel_rfl)
    (case ki_BadFilling_BadSpread => first | kit_is | kernel_rfl)
    (case ki_BadFilling_BadCell => first | kit_is | kernel_rfl)
    (case ki_BadFilling_NotHere => first | kit_is | kernel_rfl)
    (case ki_BadFilling_NotAlike => first | kit_is | kernel_rfl)
    (case ki_BadFilling_BadDeed => first | kit_is | kernel_rfl)
    (case ki_BadFilling_BadLive => first | kit_is | kernel_rfl)
    (case ki_BadFilling_BadName => first | kit_is | kernel_rfl)
    (case ki_BadFilling_BadText => first | kit_is | kernel_rfl)
    (case ki_BadFilling_NoWatch => first | kit_is | kernel_rfl)
    (case ki_BadFilling_NothingLeft => first | kit_is | kernel_rfl)
    (case kn_BadLines => first | kit_is | kernel_rfl)
    (case ki_BadLines_BoxError => first | kit_is | kernel_rfl)
    (case ki_BadLines_BadPrime => first | kit_is | kernel_rfl)
    (case ki_BadLines_BadNumber => first | kit_is | kernel_rfl)
    (case ki_BadLines_BadShape => first | kit_is | kernel_rfl)
    (case ki_BadLines_BadBox => first | kit_is | kernel_rfl)
    (case ki_BadLines_BadFilling => first | kit_is | kernel_rfl)
    (case ki_BadLines_BadOrder => first | kit_is | kernel_rfl)
    (case ki_BadLines_BadSum => first | kit_is | kernel_rfl)
    (case ki_BadLines_BadWord => first | kit_is | kernel_rfl)
    (case ki_BadLines_TooMany => first | kit_is | kernel_rfl)
    (case ki_BadLines_BadPowers => first | kit_is | kernel_rfl)
    (case ki_BadLines_BadCourse => first | kit_is | kernel_rfl)
    (case ki_BadLines_NotFree => first | kit_is | kernel_rfl)
    (case ki_BadLines_NotTold => first | kit_is | kernel_rfl)
    (case ki_BadLines_BadActing => first | kit_is | kernel_rfl)
    (case ki_BadLines_BadRows => first | kit_is | kernel_rfl)
    (case ki_BadLines_BadWay => first | kit_is | kernel_rfl)
    (case ki_BadLines_BadLines => first | kit_is | kernel_rfl)
    (case ki_BadLines_BadSpread => first | kit_is | kernel_rfl)
    (case ki_BadLines_BadCell => first | kit_is | kernel_rfl)
    (case ki_BadLines_NotHere => first | kit_is | kernel_rfl)
    (case ki_BadLines_NotAlike => first | kit_is | kernel_rfl)
    (case ki_BadLines_BadDeed => first | kit_is | kernel_rfl)
    (case ki_BadLines_BadLive => first | kit_is | kernel_rfl)
    (case ki_BadLines_BadName => first | kit_is | kernel_rfl)
    (case ki_BadLines_BadText => first | kit_is | kernel_rfl)
    (case ki_BadLines_NoWatch => first | kit_is | kernel_rfl)
    (case ki_BadLines_NothingLeft => first | kit_is | kernel_rfl)
    (case kn_BadLive => first | kit_is | kernel_rfl)
    (case ki_BadLive_BoxError => first | kit_is | kernel_rfl)
    (case ki_BadLive_BadPrime => first | kit_is | kernel_rfl)
    (case ki_BadLive_BadNumber => first | kit_is | kernel_rfl)
    (case ki_BadLive_BadShape => first | kit_is | kernel_rfl)
    (case ki_BadLive_BadBox => first | kit_is | kernel_rfl)
    (case ki_BadLive_BadFilling => first | kit_is | kernel_rfl)
    (case ki_BadLive_BadOrder => first | kit_is | kernel_rfl)
    (case ki_BadLive_BadSum => first | kit_is | kernel_rfl)
    (case ki_BadLive_BadWord => first | kit_is | kernel_rfl)
    (case ki_BadLive_TooMany => first | kit_is | kernel_rfl)
    (case ki_BadLive_BadPowers => first | kit_is | kernel_rfl)
    (case ki_BadLive_BadCourse => first | kit_is | kernel_rfl)
    (case ki_BadLive_NotFree => first | kit_is | kernel_rfl)
    (case ki_BadLive_NotTold => first | kit_is | kernel_rfl)
    (case ki_BadLive_BadActing => first | kit_is | kernel_rfl)
    (case ki_BadLive_BadRows => first | kit_is | kernel_rfl)
    (case ki_BadLive_BadWay => first | kit_is | kernel_rfl)
    (case ki_BadLive_BadLines => first | kit_is | kernel_rfl)
    (case ki_BadLive_BadSpread => first | kit_is | kernel_rfl)
    (case ki_BadLive_BadCell => first | kit_is | kernel_rfl)
    (case ki_BadLive_NotHere => first | kit_is | kernel_rfl)
    (case ki_BadLive_NotAlike => first | kit_is | kernel_rfl)
    (case ki_BadLive_BadDeed => first | kit_is | kernel_rfl)
    (case ki_BadLive_BadLive => first | kit_is | kernel_rfl)
    (case ki_BadLive_BadName => first | kit_is | kernel_rfl)
    (case ki_BadLive_BadText => first | kit_is | kernel_rfl)
    (case ki_BadLive_NoWatch => first | kit_is | kernel_rfl)
    (case ki_BadLive_NothingLeft => first | kit_is | kernel_rfl)
    (case kn_BadName => first | kit_is | kernel_rfl)
    (case ki_BadName_BoxError => first | kit_is | kernel_rfl)
    (case ki_BadName_BadPrime => first | kit_is | kernel_rfl)
    (case ki_BadName_BadNumber => first | kit_is | kernel_rfl)
    (case ki_BadName_BadShape => first | kit_is | kernel_rfl)
    (case ki_BadName_BadBox => first | kit_is | kernel_rfl)
    (case ki_BadName_BadFilling => first | kit_is | kernel_rfl)
    (case ki_BadName_BadOrder => first | kit_is | kernel_rfl)
    (case ki_BadName_BadSum => first | kit_is | kernel_rfl)
    (case ki_BadName_BadWord => first | kit_is | kernel_rfl)
    (case ki_BadName_TooMany => first | kit_is | kernel_rfl)
    (case ki_BadName_BadPowers => first | kit_is | kernel_rfl)
    (case ki_BadName_BadCourse => first | kit_is | kernel_rfl)
    (case ki_BadName_NotFree => first | kit_is | kernel_rfl)
    (case ki_BadName_NotTold => first | kit_is | kernel_rfl)
    (case ki_BadName_BadActing => first | kit_is | kernel_rfl)
    (case ki_BadName_BadRows => first | kit_is | kernel_rfl)
    (case ki_BadName_BadWay => first | kit_is | kernel_rfl)
    (case ki_BadName_BadLines => first | kit_is | kernel_rfl)
    (case ki_BadName_BadSpread => first | kit_is | kernel_rfl)
    (case ki_BadName_BadCell => first | kit_is | kernel_rfl)
    (case ki_BadName_NotHere => first | kit_is | kernel_rfl)
    (case ki_BadName_NotAlike => first | kit_is | kernel_rfl)
    (case ki_BadName_BadDeed => first | kit_is | kernel_rfl)
    (case ki_BadName_BadLive => first | kit_is | kernel_rfl)
    (case ki_BadName_BadName => first | kit_is | kernel_rfl)
    (case ki_BadName_BadText => first | kit_is | kernel_rfl)
    (case ki_BadName_NoWatch => first | kit_is | kernel_rfl)
    (case ki_BadName_NothingLeft => first | kit_is | kernel_rfl)
    (case kn_BadNumber => first | kit_is | kernel_rfl)
    (case ki_BadNumber_BoxError => first | kit_is | kernel_rfl)
    (case ki_BadNumber_BadPrime => first | kit_is | kernel_rfl)
    (case ki_BadNumber_BadNumber => first | kit_is | kernel_rfl)
    (case ki_BadNumber_BadShape => first | kit_is | kernel_rfl)
    (case ki_BadNumber_BadBox => first | kit_is | kernel_rfl)
    (case ki_BadNumber_BadFilling => first | kit_is | kernel_rfl)
    (case ki_BadNumber_BadOrder => first | kit_is | kernel_rfl)
    (case ki_BadNumber_BadSum => first | kit_is | kernel_rfl)
    (case ki_BadNumber_BadWord => first | kit_is | kernel_rfl)
    (case ki_BadNumber_TooMany => first | kit_is | kernel_rfl)
    (case ki_BadNumber_BadPowers => first | kit_is | kernel_rfl)
    (case ki_BadNumber_BadCourse => first | kit_is | kernel_rfl)
    (case ki_BadNumber_NotFree => first | kit_is | kernel_rfl)
    (case ki_BadNumber_NotTold => first | kit_is | kernel_rfl)
    (case ki_BadNumber_BadActing => first | kit_is | kernel_rfl)
    (case ki_BadNumber_BadRows => first | kit_is | kernel_rfl)
    (case ki_BadNumber_BadWay => first | kit_is | kernel_rfl)
    (case ki_BadNumber_BadLines => first | kit_is | kernel_rfl)
    (case ki_BadNumber_BadSpread => first | kit_is | kernel_rfl)
    (case ki_BadNumber_BadCell => first | kit_is | kernel_rfl)
    (case ki_BadNumber_NotHere => first | kit_is | kernel_rfl)
    (case ki_BadNumber_NotAlike => first | kit_is | kernel_rfl)
    (case ki_BadNumber_BadDeed => first | kit_is | kernel_rfl)
    (case ki_BadNumber_BadLive => first | kit_is | kernel_rfl)
    (case ki_BadNumber_BadName => first | kit_is | kernel_rfl)
    (case ki_BadNumber_BadText => first | kit_is | kernel_rfl)
    (case ki_BadNumber_NoWatch => first | kit_is | kernel_rfl)
    (case ki_BadNumber_NothingLeft => first | kit_is | kernel_rfl)
    (case kn_BadOrder => first | kit_is | kernel_rfl)
    (case ki_BadOrder_BoxError => first | kit_is | kernel_rfl)
    (case ki_BadOrder_BadPrime => first | kit_is | kernel_rfl)
    (case ki_BadOrder_BadNumber => first | kit_is | kernel_rfl)
    (case ki_BadOrder_BadShape => first | kit_is | kernel_rfl)
    (case ki_BadOrder_BadBox => first | kit_is | kernel_rfl)
    (case ki_BadOrder_BadFilling => first | kit_is | kernel_rfl)
    (case ki_BadOrder_BadOrder => first | kit_is | kernel_rfl)
    (case ki_BadOrder_BadSum => first | kit_is | kernel_rfl)
    (case ki_BadOrder_BadWord => first | kit_is | kernel_rfl)
    (case ki_BadOrder_TooMany => first | kit_is | kernel_rfl)
    (case ki_BadOrder_BadPowers => first | kit_is | kernel_rfl)
    (case ki_BadOrder_BadCourse => first | kit_is | kernel_rfl)
    (case ki_BadOrder_NotFree => first | kit_is | kernel_rfl)
    (case ki_BadOrder_NotTold => first | kit_is | kernel_rfl)
    (case ki_BadOrder_BadActing => first | kit_is | kernel_rfl)
    (case ki_BadOrder_BadRows => first | kit_is | kernel_rfl)
    (case ki_BadOrder_BadWay => first | kit_is | kernel_rfl)
    (case ki_BadOrder_BadLines => first | kit_is | kernel_rfl)
    (case ki_BadOrder_BadSpread => first | kit_is | kernel_rfl)
    (case ki_BadOrder_BadCell => first | kit_is | kernel_rfl)
    (case ki_BadOrder_NotHere => first | kit_is | kernel_rfl)
    (case ki_BadOrder_NotAlike => first | kit_is | kernel_rfl)
    (case ki_BadOrder_BadDeed => first | kit_is | kernel_rfl)
    (case ki_BadOrder_BadLive => first | kit_is | kernel_rfl)
    (case ki_BadOrder_BadName => first | kit_is | kernel_rfl)
    (case ki_BadOrder_BadText => first | kit_is | kernel_rfl)
    (case ki_BadOrder_NoWatch => first | kit_is | kernel_rfl)
    (case ki_BadOrder_NothingLeft => first | kit_is | kernel_rfl)
    (case kn_BadPowers => first | kit_is | kernel_rfl)
    (case ki_BadPowers_BoxError => first | kit_is | kernel_rfl)
    (case ki_BadPowers_BadPrime => first | kit_is | kernel_rfl)
    (case ki_BadPowers_BadNumber => first | kit_is | kernel_rfl)
    (case ki_BadPowers_BadShape => first | kit_is | kernel_rfl)
    (case ki_BadPowers_BadBox => first | kit_is | kernel_rfl)
    (case ki_BadPowers_BadFilling => first | kit_is | kernel_rfl)
    (case ki_BadPowers_BadOrder => first | kit_is | kernel_rfl)
    (case ki_BadPowers_BadSum => first | kit_is | kernel_rfl)
    (case ki_BadPowers_BadWord => first | kit_is | kernel_rfl)
    (case ki_BadPowers_TooMany => first | kit_is | kernel_rfl)
    (case ki_BadPowers_BadPowers => first | kit_is | kernel_rfl)
    (case ki_BadPowers_BadCourse => first | kit_is | kernel_rfl)
    (case ki_BadPowers_NotFree => first | kit_is | kernel_rfl)
    (case ki_BadPowers_NotTold => first | kit_is | kernel_rfl)
    (case ki_BadPowers_BadActing => first | kit_is | kernel_rfl)
    (case ki_BadPowers_BadRows => first | kit_is | kernel_rfl)
    (case ki_BadPowers_BadWay => first | kit_is | kernel_rfl)
    (case ki_BadPowers_BadLines => first | kit_is | kernel_rfl)
    (case ki_BadPowers_BadSpread => first | kit_is | kernel_rfl)
    (case ki_BadPowers_BadCell => first | kit_is | kernel_rfl)
    (case ki_BadPowers_NotHere => first | kit_is | kernel_rfl)
    (case ki_BadPowers_NotAlike => first | kit_is | kernel_rfl)
    (case ki_BadPowers_BadDeed => first | kit_is | kernel_rfl)
    (case ki_BadPowers_BadLive => first | kit_is | kernel_rfl)
    (case ki_BadPowers_BadName => first | kit_is | kernel_rfl)
    (case ki_BadPowers_BadText => first | kit_is | kernel_rfl)
    (case ki_BadPowers_NoWatch => first | kit_is | kernel_rfl)
    (case ki_BadPowers_NothingLeft => first | kit_is | kernel_rfl)
    (case kn_BadPrime => first | kit_is | kernel_rfl)
    (case ki_BadPrime_BoxError => first | kit_is | kernel_rfl)
    (case ki_BadPrime_BadPrime => first | kit_is | kernel_rfl)
    (case ki_BadPrime_BadNumber => first | kit_is | kernel_rfl)
    (case ki_BadPrime_BadShape => first | kit_is | kernel_rfl)
    (case ki_BadPrime_BadBox => first | kit_is | kernel_rfl)
    (case ki_BadPrime_BadFilling => first | kit_is | kernel_rfl)
    (case ki_BadPrime_BadOrder => first | kit_is | kernel_rfl)
    (case ki_BadPrime_BadSum => first | kit_is | kernel_rfl)
    (case ki_BadPrime_BadWord => first | kit_is | kernel_rfl)
    (case ki_BadPrime_TooMany => first | kit_is | kernel_rfl)
    (case ki_BadPrime_BadPowers => first | kit_is | kernel_rfl)
    (case ki_BadPrime_BadCourse => first | kit_is | kernel_rfl)
    (case ki_BadPrime_NotFree => first | kit_is | kernel_rfl)
    (case ki_BadPrime_NotTold => first | kit_is | kernel_rfl)
    (case ki_BadPrime_BadActing => first | kit_is | kernel_rfl)
    (case ki_BadPrime_BadRows => first | kit_is | kernel_rfl)
    (case ki_BadPrime_BadWay => first | kit_is | kernel_rfl)
    (case ki_BadPrime_BadLines => first | kit_is | kernel_rfl)
    (case ki_BadPrime_BadSpread => first | kit_is | kernel_rfl)
    (case ki_BadPrime_BadCell => first | kit_is | kernel_rfl)
    (case ki_BadPrime_NotHere => first | kit_is | kernel_rfl)
    (case ki_BadPrime_NotAlike => first | kit_is | kernel_rfl)
    (case ki_BadPrime_BadDeed => first | kit_is | kernel_rfl)
    (case ki_BadPrime_BadLive => first | kit_is | kernel_rfl)
    (case ki_BadPrime_BadName => first | kit_is | kernel_rfl)
    (case ki_BadPrime_BadText => first | kit_is | kernel_rfl)
    (case ki_BadPrime_NoWatch => first | kit_is | kernel_rfl)
    (case ki_BadPrime_NothingLeft => first | kit_is | kernel_rfl)
    (case kn_BadRows => first | kit_is | kernel_rfl)
    (case ki_BadRows_BoxError => first | kit_is | kernel_rfl)
    (case ki_BadRows_BadPrime => first | kit_is | kernel_rfl)
    (case ki_BadRows_BadNumber => first | kit_is | kernel_rfl)
    (case ki_BadRows_BadShape => first | kit_is | kernel_rfl)
    (case ki_BadRows_BadBox => first | kit_is | kernel_rfl)
    (case ki_BadRows_BadFilling => first | kit_is | kernel_rfl)
    (case ki_BadRows_BadOrder => first | kit_is | kernel_rfl)
    (case ki_BadRows_BadSum => first | kit_is | kernel_rfl)
    (case ki_BadRows_BadWord => first | kit_is | kernel_rfl)
    (case ki_BadRows_TooMany => first | kit_is | kernel_rfl)
    (case ki_BadRows_BadPowers => first | kit_is | kernel_rfl)
    (case ki_BadRows_BadCourse => first | kit_is | kernel_rfl)
    (case ki_BadRows_NotFree => first | kit_is | kernel_rfl)
    (case ki_BadRows_NotTold => first | kit_is | kernel_rfl)
    (case ki_BadRows_BadActing => first | kit_is | kernel_rfl)
    (case ki_BadRows_BadRows => first | kit_is | kernel_rfl)
    (case ki_BadRows_BadWay => first | kit_is | kernel_rfl)
    (case ki_BadRows_BadLines => first | kit_is | kernel_rfl)
    (case ki_BadRows_BadSpread => first | kit_is | kernel_rfl)
    (case ki_BadRows_BadCell => first | kit_is | kernel_rfl)
    (case ki_BadRows_NotHere => first | kit_is | kernel_rfl)
    (case ki_BadRows_NotAlike => first | kit_is | kernel_rfl)
    (case ki_BadRows_BadDeed => first | kit_is | kernel_rfl)
    (case ki_BadRows_BadLive => first | kit_is | kernel_rfl)
    (case ki_BadRows_BadName => first | kit_is | kernel_rfl)
    (case ki_BadRows_BadText => first | kit_is | kernel_rfl)
    (case ki_BadRows_NoWatch => first | kit_is | kernel_rfl)
    (case ki_BadRows_NothingLeft => first | kit_is | kernel_rfl)
    (case kn_BadShape => first | kit_is | kernel_rfl)
    (case ki_BadShape_BoxError => first | kit_is | kernel_rfl)
    (case ki_BadShape_BadPrime => first | kit_is | kernel_rfl)
    (case ki_BadShape_BadNumber => first | kit_is | kernel_rfl)
    (case ki_BadShape_BadShape => first | kit_is | kernel_rfl)
    (case ki_BadShape_BadBox => first | kit_is | kernel_rfl)
    (case ki_BadShape_BadFilling => first | kit_is | kernel_rfl)
    (case ki_BadShape_BadOrder => first | kit_is | kernel_rfl)
    (case ki_BadShape_BadSum => first | kit_is | kernel_rfl)
    (case ki_BadShape_BadWord => first | kit_is | kernel_rfl)
    (case ki_BadShape_TooMany => first | kit_is | kernel_rfl)
    (case ki_BadShape_BadPowers => first | kit_is | kernel_rfl)
    (case ki_BadShape_BadCourse => first | kit_is | kernel_rfl)
    (case ki_BadShape_NotFree => first | kit_is | kernel_rfl)
    (case ki_BadShape_NotTold => first | kit_is | kernel_rfl)
    (case ki_BadShape_BadActing => first | kit_is | kernel_rfl)
    (case ki_BadShape_BadRows => first | kit_is | kernel_rfl)
    (case ki_BadShape_BadWay => first | kit_is | kernel_rfl)
    (case ki_BadShape_BadLines => first | kit_is | kernel_rfl)
    (case ki_BadShape_BadSpread => first | kit_is | kernel_rfl)
    (case ki_BadShape_BadCell => first | kit_is | kernel_rfl)
    (case ki_BadShape_NotHere => first | kit_is | kernel_rfl)
    (case ki_BadShape_NotAlike => first | kit_is | kernel_rfl)
    (case ki_BadShape_BadDeed => first | kit_is | kernel_rfl)
    (case ki_BadShape_BadLive => first | kit_is | kernel_rfl)
    (case ki_BadShape_BadName => first | kit_is | kernel_rfl)
    (case ki_BadShape_BadText => first | kit_is | kernel_rfl)
    (case ki_BadShape_NoWatch => first | kit_is | kernel_rfl)
    (case ki_BadShape_NothingLeft => first | kit_is | kernel_rfl)
    (case kn_BadSpread => first | kit_is | kernel_rfl)
    (case ki_BadSpread_BoxError => first | kit_is | kernel_rfl)
    (case ki_BadSpread_BadPrime => first | kit_is | kernel_rfl)
    (case ki_BadSpread_BadNumber => first | kit_is | kernel_rfl)
    (case ki_BadSpread_BadShape => first | kit_is | kernel_rfl)
    (case ki_BadSpread_BadBox => first | kit_is | kernel_rfl)
    (case ki_BadSpread_BadFilling => first | kit_is | kernel_rfl)
    (case ki_BadSpread_BadOrder => first | kit_is | kernel_rfl)
    (case ki_BadSpread_BadSum => first | kit_is | kernel_rfl)
    (case ki_BadSpread_BadWord => first | kit_is | kernel_rfl)
    (case ki_BadSpread_TooMany => first | kit_is | kernel_rfl)
    (case ki_BadSpread_BadPowers => first | kit_is | kernel_rfl)
    (case ki_BadSpread_BadCourse => first | kit_is | kernel_rfl)
    (case ki_BadSpread_NotFree => first | kit_is | kernel_rfl)
    (case ki_BadSpread_NotTold => first | kit_is | kernel_rfl)
    (case ki_BadSpread_BadActing => first | kit_is | kernel_rfl)
    (case ki_BadSpread_BadRows => first | kit_is | kernel_rfl)
    (case ki_BadSpread_BadWay => first | kit_is | kernel_rfl)
    (case ki_BadSpread_BadLines => first | kit_is | kernel_rfl)
    (case ki_BadSpread_BadSpread => first | kit_is | kernel_rfl)
    (case ki_BadSpread_BadCell => first | kit_is | kernel_rfl)
    (case ki_BadSpread_NotHere => first | kit_is | kernel_rfl)
    (case ki_BadSpread_NotAlike => first | kit_is | kernel_rfl)
    (case ki_BadSpread_BadDeed => first | kit_is | kernel_rfl)
    (case ki_BadSpread_BadLive => first | kit_is | kernel_rfl)
    (case ki_BadSpread_BadName => first | kit_is | kernel_rfl)
    (case ki_BadSpread_BadText => first | kit_is | kernel_rfl)
    (case ki_BadSpread_NoWatch => first | kit_is | kernel_rfl)
    (case ki_BadSpread_NothingLeft => first | kit_is | kernel_rfl)
    (case kn_BadSum => first | kit_is | kernel_rfl)
    (case ki_BadSum_BoxError => first | kit_is | kernel_rfl)
    (case ki_BadSum_BadPrime => first | kit_is | kernel_rfl)
    (case ki_BadSum_BadNumber => first | kit_is | kernel_rfl)
    (case ki_BadSum_BadShape => first | kit_is | kernel_rfl)
    (case ki_BadSum_BadBox => first | kit_is | kernel_rfl)
    (case ki_BadSum_BadFilling => first | kit_is | kernel_rfl)
    (case ki_BadSum_BadOrder => first | kit_is | kernel_rfl)
    (case ki_BadSum_BadSum => first | kit_is | kernel_rfl)
    (case ki_BadSum_BadWord => first | kit_is | kernel_rfl)
    (case ki_BadSum_TooMany => first | kit_is | kernel_rfl)
    (case ki_BadSum_BadPowers => first | kit_is | kernel_rfl)
    (case ki_BadSum_BadCourse => first | kit_is | kernel_rfl)
    (case ki_BadSum_NotFree => first | kit_is | kernel_rfl)
    (case ki_BadSum_NotTold => first | kit_is | kernel_rfl)
    (case ki_BadSum_BadActing => first | kit_is | kernel_rfl)
    (case ki_BadSum_BadRows => first | kit_is | kernel_rfl)
    (case ki_BadSum_BadWay => first | kit_is | kernel_rfl)
    (case ki_BadSum_BadLines => first | kit_is | kernel_rfl)
    (case ki_BadSum_BadSpread => first | kit_is | kernel_rfl)
    (case ki_BadSum_BadCell => first | kit_is | kernel_rfl)
    (case ki_BadSum_NotHere => first | kit_is | kernel_rfl)
    (case ki_BadSum_NotAlike => first | kit_is | kernel_rfl)
    (case ki_BadSum_BadDeed => first | kit_is | kernel_rfl)
    (case ki_BadSum_BadLive => first | kit_is | kernel_rfl)
    (case ki_BadSum_BadName => first | kit_is | kernel_rfl)
    (case ki_BadSum_BadText => first | kit_is | kernel_rfl)
    (case ki_BadSum_NoWatch => first | kit_is | kernel_rfl)
    (case ki_BadSum_NothingLeft => first | kit_is | kernel_rfl)
    (case kn_BadText => first | kit_is | kernel_rfl)
    (case ki_BadText_BoxError => first | kit_is | kernel_rfl)
    (case ki_BadText_BadPrime => first | kit_is | kernel_rfl)
    (case ki_BadText_BadNumber => first | kit_is | kernel_rfl)
    (case ki_BadText_BadShape => first | kit_is | kernel_rfl)
    (case ki_BadText_BadBox => first | kit_is | kernel_rfl)
    (case ki_BadText_BadFilling => first | kit_is | kernel_rfl)
    (case ki_BadText_BadOrder => first | kit_is | kernel_rfl)
    (case ki_BadText_BadSum => first | kit_is | kernel_rfl)
    (case ki_BadText_BadWord => first | kit_is | kernel_rfl)
    (case ki_BadText_TooMany => first | kit_is | kernel_rfl)
    (case ki_BadText_BadPowers => first | kit_is | kernel_rfl)
    (case ki_BadText_BadCourse => first | kit_is | kernel_rfl)
    (case ki_BadText_NotFree => first | kit_is | kernel_rfl)
    (case ki_BadText_NotTold => first | kit_is | kernel_rfl)
    (case ki_BadText_BadActing => first | kit_is | kernel_rfl)
    (case ki_BadText_BadRows => first | kit_is | kernel_rfl)
    (case ki_BadText_BadWay => first | kit_is | kernel_rfl)
    (case ki_BadText_BadLines => first | kit_is | kernel_rfl)
    (case ki_BadText_BadSpread => first | kit_is | kernel_rfl)
    (case ki_BadText_BadCell => first | kit_is | kernel_rfl)
    (case ki_BadText_NotHere => first | kit_is | kernel_rfl)
    (case ki_BadText_NotAlike => first | kit_is | kernel_rfl)
    (case ki_BadText_BadDeed => first | kit_is | kernel_rfl)
    (case ki_BadText_BadLive => first | kit_is | kernel_rfl)
    (case ki_BadText_BadName => first | kit_is | kernel_rfl)
    (case ki_BadText_BadText => first | kit_is | kernel_rfl)
    (case ki_BadText_NoWatch => first | kit_is | kernel_rfl)
    (case ki_BadText_NothingLeft => first | kit_is | kernel_rfl)
    (case kn_BadWay => first | kit_is | kernel_rfl)
    (case ki_BadWay_BoxError => first | kit_is | kernel_rfl)
    (case ki_BadWay_BadPrime => first | kit_is | kernel_rfl)
    (case ki_BadWay_BadNumber => first | kit_is | kernel_rfl)
    (case ki_BadWay_BadShape => first | kit_is | kernel_rfl)
    (case ki_BadWay_BadBox => first | kit_is | kernel_rfl)
    (case ki_BadWay_BadFilling => first | kit_is | kernel_rfl)
    (case ki_BadWay_BadOrder => first | kit_is | kernel_rfl)
    (case ki_BadWay_BadSum => first | kit_is | kernel_rfl)
    (case ki_BadWay_BadWord => first | kit_is | kernel_rfl)
    (case ki_BadWay_TooMany => first | kit_is | kernel_rfl)
    (case ki_BadWay_BadPowers => first | kit_is | kernel_rfl)
    (case ki_BadWay_BadCourse => first | kit_is | kernel_rfl)
    (case ki_BadWay_NotFree => first | kit_is | kernel_rfl)
    (case ki_BadWay_NotTold => first | kit_is | kernel_rfl)
    (case ki_BadWay_BadActing => first | kit_is | kernel_rfl)
    (case ki_BadWay_BadRows => first | kit_is | kernel_rfl)
    (case ki_BadWay_BadWay => first | kit_is | kernel_rfl)
    (case ki_BadWay_BadLines => first | kit_is | kernel_rfl)
    (case ki_BadWay_BadSpread => first | kit_is | kernel_rfl)
    (case ki_BadWay_BadCell => first | kit_is | kernel_rfl)
    (case ki_BadWay_NotHere => first | kit_is | kernel_rfl)
    (case ki_BadWay_NotAlike => first | kit_is | kernel_rfl)
    (case ki_BadWay_BadDeed => first | kit_is | kernel_rfl)
    (case ki_BadWay_BadLive => first | kit_is | kernel_rfl)
    (case ki_BadWay_BadName => first | kit_is | kernel_rfl)
    (case ki_BadWay_BadText => first | kit_is | kernel_rfl)
    (case ki_BadWay_NoWatch => first | kit_is | kernel_rfl)
    (case ki_BadWay_NothingLeft => first | kit_is | kernel_rfl)
    (case kn_BadWord => first | kit_is | kernel_rfl)
    (case ki_BadWord_BoxError => first | kit_is | kernel_rfl)
    (case ki_BadWord_BadPrime => first | kit_is | kernel_rfl)
    (case ki_BadWord_BadNumber => first | kit_is | kernel_rfl)
    (case ki_BadWord_BadShape => first | kit_is | kernel_rfl)
    (case ki_BadWord_BadBox => first | kit_is | kernel_rfl)
    (case ki_BadWord_BadFilling => first | kit_is | kernel_rfl)
    (case ki_BadWord_BadOrder => first | kit_is | kernel_rfl)
    (case ki_BadWord_BadSum => first | kit_is | kernel_rfl)
    (case ki_BadWord_BadWord => first | kit_is | kernel_rfl)
    (case ki_BadWord_TooMany => first | kit_is | kernel_rfl)
    (case ki_BadWord_BadPowers => first | kit_is | kernel_rfl)
    (case ki_BadWord_BadCourse => first | kit_is | kernel_rfl)
    (case ki_BadWord_NotFree => first | kit_is | kernel_rfl)
    (case ki_BadWord_NotTold => first | kit_is | kernel_rfl)
    (case ki_BadWord_BadActing => first | kit_is | kernel_rfl)
    (case ki_BadWord_BadRows => first | kit_is | kernel_rfl)
    (case ki_BadWord_BadWay => first | kit_is | kernel_rfl)
    (case ki_BadWord_BadLines => first | kit_is | kernel_rfl)
    (case ki_BadWord_BadSpread => first | kit_is | kernel_rfl)
    (case ki_BadWord_BadCell => first | kit_is | kernel_rfl)
    (case ki_BadWord_NotHere => first | kit_is | kernel_rfl)
    (case ki_BadWord_NotAlike => first | kit_is | kernel_rfl)
    (case ki_BadWord_BadDeed => first | kit_is | kernel_rfl)
    (case ki_BadWord_BadLive => first | kit_is | kernel_rfl)
    (case ki_BadWord_BadName => first | kit_is | kernel_rfl)
    (case ki_BadWord_BadText => first | kit_is | kernel_rfl)
    (case ki_BadWord_NoWatch => first | kit_is | kernel_rfl)
    (case ki_BadWord_NothingLeft => first | kit_is | kernel_rfl)
    (case kn_BoxError => first | kit_is | kernel_rfl)
    (case ki_BoxError_BoxError => first | kit_is | kernel_rfl)
    (case ki_BoxError_BadPrime => first | kit_is | kernel_rfl)
    (case ki_BoxError_BadNumber => first | kit_is | kernel_rfl)
    (case ki_BoxError_BadShape => first | kit_is | kernel_rfl)
    (case ki_BoxError_BadBox => first | kit_is | kernel_rfl)
    (case ki_BoxError_BadFilling => first | kit_is | kernel_rfl)
    (case ki_BoxError_BadOrder => first | kit_is | kernel_rfl)
    (case ki_BoxError_BadSum => first | kit_is | kernel_rfl)
    (case ki_BoxError_BadWord => first | kit_is | kernel_rfl)
    (case ki_BoxError_TooMany => first | kit_is | kernel_rfl)
    (case ki_BoxError_BadPowers => first | kit_is | kernel_rfl)
    (case ki_BoxError_BadCourse => first | kit_is | kernel_rfl)
    (case ki_BoxError_NotFree => first | kit_is | kernel_rfl)
    (case ki_BoxError_NotTold => first | kit_is | kernel_rfl)
    (case ki_BoxError_BadActing => first | kit_is | kernel_rfl)
    (case ki_BoxError_BadRows => first | kit_is | kernel_rfl)
    (case ki_BoxError_BadWay => first | kit_is | kernel_rfl)
    (case ki_BoxError_BadLines => first | kit_is | kernel_rfl)
    (case ki_BoxError_BadSpread => first | kit_is | kernel_rfl)
    (case ki_BoxError_BadCell => first | kit_is | kernel_rfl)
    (case ki_BoxError_NotHere => first | kit_is | kernel_rfl)
    (case ki_BoxError_NotAlike => first | kit_is | kernel_rfl)
    (case ki_BoxError_BadDeed => first | kit_is | kernel_rfl)
    (case ki_BoxError_BadLive => first | kit_is | kernel_rfl)
    (case ki_BoxError_BadName => first | kit_is | kernel_rfl)
    (case ki_BoxError_BadText => first | kit_is | kernel_rfl)
    (case ki_BoxError_NoWatch => first | kit_is | kernel_rfl)
    (case ki_BoxError_NothingLeft => first | kit_is | kernel_rfl)
    (case kn_NoWatch => first | kit_is | kernel_rfl)
    (case ki_NoWatch_BoxError => first | kit_is | kernel_rfl)
    (case ki_NoWatch_BadPrime => first | kit_is | kernel_rfl)
    (case ki_NoWatch_BadNumber => first | kit_is | kernel_rfl)
    (case ki_NoWatch_BadShape => first | kit_is | kernel_rfl)
    (case ki_NoWatch_BadBox => first | kit_is | kernel_rfl)
    (case ki_NoWatch_BadFilling => first | kit_is | kernel_rfl)
    (case ki_NoWatch_BadOrder => first | kit_is | kernel_rfl)
    (case ki_NoWatch_BadSum => first | kit_is | kernel_rfl)
    (case ki_NoWatch_BadWord => first | kit_is | kernel_rfl)
    (case ki_NoWatch_TooMany => first | kit_is | kernel_rfl)
    (case ki_NoWatch_BadPowers => first | kit_is | kernel_rfl)
    (case ki_NoWatch_BadCourse => first | kit_is | kernel_rfl)
    (case ki_NoWatch_NotFree => first | kit_is | kernel_rfl)
    (case ki_NoWatch_NotTold => first | kit_is | kernel_rfl)
    (case ki_NoWatch_BadActing => first | kit_is | kernel_rfl)
    (case ki_NoWatch_BadRows => first | kit_is | kernel_rfl)
    (case ki_NoWatch_BadWay => first | kit_is | kernel_rfl)
    (case ki_NoWatch_BadLines => first | kit_is | kernel_rfl)
    (case ki_NoWatch_BadSpread => first | kit_is | kernel_rfl)
    (case ki_NoWatch_BadCell => first | kit_is | kernel_rfl)
    (case ki_NoWatch_NotHere => first | kit_is | kernel_rfl)
    (case ki_NoWatch_NotAlike => first | kit_is | kernel_rfl)
    (case ki_NoWatch_BadDeed => first | kit_is | kernel_rfl)
    (case ki_NoWatch_BadLive => first | kit_is | kernel_rfl)
    (case ki_NoWatch_BadName => first | kit_is | kernel_rfl)
    (case ki_NoWatch_BadText => first | kit_is | kernel_rfl)
    (case ki_NoWatch_NoWatch => first | kit_is | kernel_rfl)
    (case ki_NoWatch_NothingLeft => first | kit_is | kernel_rfl)
    (case kn_NotAlike => first | kit_is | kernel_rfl)
    (case ki_NotAlike_BoxError => first | kit_is | kernel_rfl)
    (case ki_NotAlike_BadPrime => first | kit_is | kernel_rfl)
    (case ki_NotAlike_BadNumber => first | kit_is | kernel_rfl)
    (case ki_NotAlike_BadShape => first | kit_is | kernel_rfl)
    (case ki_NotAlike_BadBox => first | kit_is | kernel_rfl)
    (case ki_NotAlike_BadFilling => first | kit_is | kernel_rfl)
    (case ki_NotAlike_BadOrder => first | kit_is | kernel_rfl)
    (case ki_NotAlike_BadSum => first | kit_is | kernel_rfl)
    (case ki_NotAlike_BadWord => first | kit_is | kernel_rfl)
    (case ki_NotAlike_TooMany => first | kit_is | kernel_rfl)
    (case ki_NotAlike_BadPowers => first | kit_is | kernel_rfl)
    (case ki_NotAlike_BadCourse => first | kit_is | kernel_rfl)
    (case ki_NotAlike_NotFree => first | kit_is | kernel_rfl)
    (case ki_NotAlike_NotTold => first | kit_is | kernel_rfl)
    (case ki_NotAlike_BadActing => first | kit_is | kernel_rfl)
    (case ki_NotAlike_BadRows => first | kit_is | kernel_rfl)
    (case ki_NotAlike_BadWay => first | kit_is | kernel_rfl)
    (case ki_NotAlike_BadLines => first | kit_is | kernel_rfl)
    (case ki_NotAlike_BadSpread => first | kit_is | kernel_rfl)
    (case ki_NotAlike_BadCell => first | kit_is | kernel_rfl)
    (case ki_NotAlike_NotHere => first | kit_is | kernel_rfl)
    (case ki_NotAlike_NotAlike => first | kit_is | kernel_rfl)
    (case ki_NotAlike_BadDeed => first | kit_is | kernel_rfl)
    (case ki_NotAlike_BadLive => first | kit_is | kernel_rfl)
    (case ki_NotAlike_BadName => first | kit_is | kernel_rfl)
    (case ki_NotAlike_BadText => first | kit_is | kernel_rfl)
    (case ki_NotAlike_NoWatch => first | kit_is | kernel_rfl)
    (case ki_NotAlike_NothingLeft => first | kit_is | kernel_rfl)
    (case kn_NotFree => first | kit_is | kernel_rfl)
    (case ki_NotFree_BoxError => first | kit_is | kernel_rfl)
    (case ki_NotFree_BadPrime => first | kit_is | kernel_rfl)
    (case ki_NotFree_BadNumber => first | kit_is | kernel_rfl)
    (case ki_NotFree_BadShape => first | kit_is | kernel_rfl)
    (case ki_NotFree_BadBox => first | kit_is | kernel_rfl)
    (case ki_NotFree_BadFilling => first | kit_is | kernel_rfl)
    (case ki_NotFree_BadOrder => first | kit_is | kernel_rfl)
    (case ki_NotFree_BadSum => first | kit_is | kernel_rfl)
    (case ki_NotFree_BadWord => first | kit_is | kernel_rfl)
    (case ki_NotFree_TooMany => first | kit_is | kernel_rfl)
    (case ki_NotFree_BadPowers => first | kit_is | kernel_rfl)
    (case ki_NotFree_BadCourse => first | kit_is | kernel_rfl)
    (case ki_NotFree_NotFree => first | kit_is | kernel_rfl)
    (case ki_NotFree_NotTold => first | kit_is | kernel_rfl)
    (case ki_NotFree_BadActing => first | kit_is | kernel_rfl)
    (case ki_NotFree_BadRows => first | kit_is | kernel_rfl)
    (case ki_NotFree_BadWay => first | kit_is | kernel_rfl)
    (case ki_NotFree_BadLines => first | kit_is | kernel_rfl)
    (case ki_NotFree_BadSpread => first | kit_is | kernel_rfl)
    (case ki_NotFree_BadCell => first | kit_is | kernel_rfl)
    (case ki_NotFree_NotHere => first | kit_is | kernel_rfl)
    (case ki_NotFree_NotAlike => first | kit_is | kernel_rfl)
    (case ki_NotFree_BadDeed => first | kit_is | kernel_rfl)
    (case ki_NotFree_BadLive => first | kit_is | kernel_rfl)
    (case ki_NotFree_BadName => first | kit_is | kernel_rfl)
    (case ki_NotFree_BadText => first | kit_is | kernel_rfl)
    (case ki_NotFree_NoWatch => first | kit_is | kernel_rfl)
    (case ki_NotFree_NothingLeft => first | kit_is | kernel_rfl)
    (case kn_NotHere => first | kit_is | kernel_rfl)
    (case ki_NotHere_BoxError => first | kit_is | kernel_rfl)
    (case ki_NotHere_BadPrime => first | kit_is | kernel_rfl)
    (case ki_NotHere_BadNumber => first | kit_is | kernel_rfl)
    (case ki_NotHere_BadShape => first | kit_is | kernel_rfl)
    (case ki_NotHere_BadBox => first | kit_is | kernel_rfl)
    (case ki_NotHere_BadFilling => first | kit_is | kernel_rfl)
    (case ki_NotHere_BadOrder => first | kit_is | kernel_rfl)
    (case ki_NotHere_BadSum => first | kit_is | kernel_rfl)
    (case ki_NotHere_BadWord => first | kit_is | kernel_rfl)
    (case ki_NotHere_TooMany => first | kit_is | kernel_rfl)
    (case ki_NotHere_BadPowers => first | kit_is | kernel_rfl)
    (case ki_NotHere_BadCourse => first | kit_is | kernel_rfl)
    (case ki_NotHere_NotFree => first | kit_is | kernel_rfl)
    (case ki_NotHere_NotTold => first | kit_is | kernel_rfl)
    (case ki_NotHere_BadActing => first | kit_is | kernel_rfl)
    (case ki_NotHere_BadRows => first | kit_is | kernel_rfl)
    (case ki_NotHere_BadWay => first | kit_is | kernel_rfl)
    (case ki_NotHere_BadLines => first | kit_is | kernel_rfl)
    (case ki_NotHere_BadSpread => first | kit_is | kernel_rfl)
    (case ki_NotHere_BadCell => first | kit_is | kernel_rfl)
    (case ki_NotHere_NotHere => first | kit_is | kernel_rfl)
    (case ki_NotHere_NotAlike => first | kit_is | kernel_rfl)
    (case ki_NotHere_BadDeed => first | kit_is | kernel_rfl)
    (case ki_NotHere_BadLive => first | kit_is | kernel_rfl)
    (case ki_NotHere_BadName => first | kit_is | kernel_rfl)
    (case ki_NotHere_BadText => first | kit_is | kernel_rfl)
    (case ki_NotHere_NoWatch => first | kit_is | kernel_rfl)
    (case ki_NotHere_NothingLeft => first | kit_is | kernel_rfl)
    (case kn_NotTold => first | kit_is | kernel_rfl)
    (case ki_NotTold_BoxError => first | kit_is | kernel_rfl)
    (case ki_NotTold_BadPrime => first | kit_is | kernel_rfl)
    (case ki_NotTold_BadNumber => first | kit_is | kernel_rfl)
    (case ki_NotTold_BadShape => first | kit_is | kernel_rfl)
    (case ki_NotTold_BadBox => first | kit_is | kernel_rfl)
    (case ki_NotTold_BadFilling => first | kit_is | kernel_rfl)
    (case ki_NotTold_BadOrder => first | kit_is | kernel_rfl)
    (case ki_NotTold_BadSum => first | kit_is | kernel_rfl)
    (case ki_NotTold_BadWord => first | kit_is | kernel_rfl)
    (case ki_NotTold_TooMany => first | kit_is | kernel_rfl)
    (case ki_NotTold_BadPowers => first | kit_is | kernel_rfl)
    (case ki_NotTold_BadCourse => first | kit_is | kernel_rfl)
    (case ki_NotTold_NotFree => first | kit_is | kernel_rfl)
    (case ki_NotTold_NotTold => first | kit_is | kernel_rfl)
    (case ki_NotTold_BadActing => first | kit_is | kernel_rfl)
    (case ki_NotTold_BadRows => first | kit_is | kernel_rfl)
    (case ki_NotTold_BadWay => first | kit_is | kernel_rfl)
    (case ki_NotTold_BadLines => first | kit_is | kernel_rfl)
    (case ki_NotTold_BadSpread => first | kit_is | kernel_rfl)
    (case ki_NotTold_BadCell => first | kit_is | kernel_rfl)
    (case ki_NotTold_NotHere => first | kit_is | kernel_rfl)
    (case ki_NotTold_NotAlike => first | kit_is | kernel_rfl)
    (case ki_NotTold_BadDeed => first | kit_is | kernel_rfl)
    (case ki_NotTold_BadLive => first | kit_is | kernel_rfl)
    (case ki_NotTold_BadName => first | kit_is | kernel_rfl)
    (case ki_NotTold_BadText => first | kit_is | kernel_rfl)
    (case ki_NotTold_NoWatch => first | kit_is | kernel_rfl)
    (case ki_NotTold_NothingLeft => first | kit_is | kernel_rfl)
    (case kn_NothingLeft => first | kit_is | kernel_rfl)
    (case ki_NothingLeft_BoxError => first | kit_is | kernel_rfl)
    (case ki_NothingLeft_BadPrime => first | kit_is | kernel_rfl)
    (case ki_NothingLeft_BadNumber => first | kit_is | kernel_rfl)
    (case ki_NothingLeft_BadShape => first | kit_is | kernel_rfl)
    (case ki_NothingLeft_BadBox => first | kit_is | kernel_rfl)
    (case ki_NothingLeft_BadFilling => first | kit_is | kernel_rfl)
    (case ki_NothingLeft_BadOrder => first | kit_is | kernel_rfl)
    (case ki_NothingLeft_BadSum => first | kit_is | kernel_rfl)
    (case ki_NothingLeft_BadWord => first | kit_is | kernel_rfl)
    (case ki_NothingLeft_TooMany => first | kit_is | kernel_rfl)
    (case ki_NothingLeft_BadPowers => first | kit_is | kernel_rfl)
    (case ki_NothingLeft_BadCourse => first | kit_is | kernel_rfl)
    (case ki_NothingLeft_NotFree => first | kit_is | kernel_rfl)
    (case ki_NothingLeft_NotTold => first | kit_is | kernel_rfl)
    (case ki_NothingLeft_BadActing => first | kit_is | kernel_rfl)
    (case ki_NothingLeft_BadRows => first | kit_is | kernel_rfl)
    (case ki_NothingLeft_BadWay => first | kit_is | kernel_rfl)
    (case ki_NothingLeft_BadLines => first | kit_is | kernel_rfl)
    (case ki_NothingLeft_BadSpread => first | kit_is | kernel_rfl)
    (case ki_NothingLeft_BadCell => first | kit_is | kernel_rfl)
    (case ki_NothingLeft_NotHere => first | kit_is | kernel_rfl)
    (case ki_NothingLeft_NotAlike => first | kit_is | kernel_rfl)
    (case ki_NothingLeft_BadDeed => first | kit_is | kernel_rfl)
    (case ki_NothingLeft_BadLive => first | kit_is | kernel_rfl)
    (case ki_NothingLeft_BadName => first | kit_is | kernel_rfl)
    (case ki_NothingLeft_BadText => first | kit_is | kernel_rfl)
    (case ki_NothingLeft_NoWatch => first | kit_is | kernel_rfl)
    (case ki_NothingLeft_NothingLeft => first | kit_is | kernel_rfl)
    (case kn_TooMany => first | kit_is | kernel_rfl)
    (case ki_TooMany_BoxError => first | kit_is | kernel_rfl)
    (case ki_TooMany_BadPrime => first | kit_is | kernel_rfl)
    (case ki_TooMany_BadNumber => first | kit_is | kernel_rfl)
    (case ki_TooMany_BadShape => first | kit_is | kernel_rfl)
    (case ki_TooMany_BadBox => first | kit_is | kernel_rfl)
    (case ki_TooMany_BadFilling => first | kit_is | kernel_rfl)
    (case ki_TooMany_BadOrder => first | kit_is | kernel_rfl)
    (case ki_TooMany_BadSum => first | kit_is | kernel_rfl)
    (case ki_TooMany_BadWord => first | kit_is | kernel_rfl)
    (case ki_TooMany_TooMany => first | kit_is | kernel_rfl)
    (case ki_TooMany_BadPowers => first | kit_is | kernel_rfl)
    (case ki_TooMany_BadCourse => first | kit_is | kernel_rfl)
    (case ki_TooMany_NotFree => first | kit_is | kernel_rfl)
    (case ki_TooMany_NotTold => first | kit_is | kernel_rfl)
    (case ki_TooMany_BadActing => first | kit_is | kernel_rfl)
    (case ki_TooMany_BadRows => first | kit_is | kernel_rfl)
    (case ki_TooMany_BadWay => first | kit_is | kernel_rfl)
    (case ki_TooMany_BadLines => first | kit_is | kernel_rfl)
    (case ki_TooMany_BadSpread => first | kit_is | kernel_rfl)
    (case ki_TooMany_BadCell => first | kit_is | kernel_rfl)
    (case ki_TooMany_NotHere => first | kit_is | kernel_rfl)
    (case ki_TooMany_NotAlike => first | kit_is | kernel_rfl)
    (case ki_TooMany_BadDeed => first | kit_is | kernel_rfl)
    (case ki_TooMany_BadLive => first | kit_is | kernel_rfl)
    (case ki_TooMany_BadName => first | kit_is | kernel_rfl)
    (case ki_TooMany_BadText => first | kit_is | kernel_rfl)
    (case ki_TooMany_NoWatch => first | kit_is | kernel_rfl)
    (case ki_TooMany_NothingLeft => first | kit_is | kernel_rfl)
    (case kb_ValueError_BoxError => first | kit_is | kernel_rfl)
    (case kb_ValueError_BadPrime => first | kit_is | kernel_rfl)
    (case kb_ValueError_BadNumber => first | kit_is | kernel_rfl)
    (case kb_ValueError_BadShape => first | kit_is | kernel_rfl)
    (case kb_ValueError_BadBox => first | kit_is | kernel_rfl)
    (case kb_ValueError_BadFilling => first | kit_is | kernel_rfl)
    (case kb_ValueError_BadOrder => first | kit_is | kernel_rfl)
    (case kb_ValueError_BadSum => first | kit_is | kernel_rfl)
    (case kb_ValueError_BadWord => first | kit_is | kernel_rfl)
    (case kb_ValueError_TooMany => first | kit_is | kernel_rfl)
    (case kb_ValueError_BadPowers => first | kit_is | kernel_rfl)
    (case kb_ValueError_BadCourse => first | kit_is | kernel_rfl)
    (case kb_ValueError_NotFree => first | kit_is | kernel_rfl)
    (case kb_ValueError_NotTold => first | kit_is | kernel_rfl)
    (case kb_ValueError_BadActing => first | kit_is | kernel_rfl)
    (case kb_ValueError_BadRows => first | kit_is | kernel_rfl)
    (case kb_ValueError_BadWay => first | kit_is | kernel_rfl)
    (case kb_ValueError_BadLines => first | kit_is | kernel_rfl)
    (case kb_ValueError_BadSpread => first | kit_is | kernel_rfl)
    (case kb_ValueError_BadCell => first | kit_is | kernel_rfl)
    (case kb_ValueError_NotHere => first | kit_is | kernel_rfl)
    (case kb_ValueError_NotAlike => first | kit_is | kernel_rfl)
    (case kb_ValueError_BadDeed => first | kit_is | kernel_rfl)
    (case kb_ValueError_BadLive => first | kit_is | kernel_rfl)
    (case kb_ValueError_BadName => first | kit_is | kernel_rfl)
    (case kb_ValueError_BadText => first | kit_is | kernel_rfl)
    (case kb_ValueError_NoWatch => first | kit_is | kernel_rfl)
    (case kb_ValueError_NothingLeft => first | kit_is | kernel_rfl)
    (case ft => decide +kernel)
