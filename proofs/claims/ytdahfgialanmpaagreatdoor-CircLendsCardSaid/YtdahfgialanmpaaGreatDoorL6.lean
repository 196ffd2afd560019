/- CircLends: a part of the proof of the given statement, which is proved without conditions. -/
import Derived.Test.YtdahfgialanmpaaGreatDoorL5
import Derived.KernelRfl
import Derived.Test.YtdahfgialanmpaaGreatDoorProg
import Derived.Laws.BitsLemmas
set_option linter.all false
namespace Go.Proofs.YtdahfgialanmpaaGreatDoor
set_option maxRecDepth 100000
open Ev
open Go (IntKind)
open Go
noncomputable abbrev ZP:=Tryz.prog
theorem zaed:fnB ZP 19 Tryz.f19 [4,9,14]=true:=by kernel_rfl
theorem zadv:CG ZP sg @zanf:=cg0
theorem zas2:zaf ZP sg 0 Tryz.f19 @zix 4:=zas z6m good Tryz.func19 zaed zadv zaa (fun a=>by kernel_rfl) (by kernel_rfl) (fun _ _=>rfl)
theorem zas3:zaf ZP sg 0 Tryz.f19 @zix 9:=zas z6n good Tryz.func19 zaed zadv zaa (fun a=>by kernel_rfl) (by kernel_rfl) (fun _ _=>rfl)
theorem zaez:zaf ZP sg 0 Tryz.f19 @zix 14:=zas zxo good Tryz.func19 zaed zadv zaa (fun a=>by kernel_rfl) (by kernel_rfl) (fun _ _=>rfl)
theorem zazt:SG ZP sg 19 @za29:=conD (loops:=zix) good Tryz.func19 zaed (by kernel_rfl) zadv (all_cons zas2 (all_cons zas3 (all_cons zaez zaa))) (fun a=>by kernel_rfl)
theorem zt6:SG ZP sg 258 @zv6:=conE good Tryz.func258 (by kernel_rfl) (by kernel_rfl) cg0 (fun a=>by kernel_rfl)
theorem zaj1:fnB ZP 174 Tryz.f174 [2]=true:=by kernel_rfl
theorem zaii:CG ZP sg @zac0:=(cgc zt6 cg0)
theorem zae9:zaf ZP sg 0 Tryz.f174 @zsb 2:=zas zxy good Tryz.func174 zaj1 zaii zaa (fun a=>by kernel_rfl) (by kernel_rfl) (fun _ _=>rfl)
theorem z4k:SG ZP sg 174 @zv4:=conD (loops:=zsb) good Tryz.func174 zaj1 (by kernel_rfl) zaii (all_cons zae9 zaa) (fun a=>by kernel_rfl)
theorem zazy:SG ZP sg 259 @zamp:=conE good Tryz.func259 (by kernel_rfl) (by kernel_rfl) (cgc zt6 cg0) (fun a=>by kernel_rfl)
theorem zaor:SG ZP sg 260 @z9k:=conE good Tryz.func260 (by kernel_rfl) (by kernel_rfl) cg0 (fun a=>by kernel_rfl)
theorem zaj2:fnB ZP 175 Tryz.f175 [4]=true:=by kernel_rfl
theorem zaid:CG ZP sg @zacp:=(cgc zt6 (cgc zazy (cgc zaor cg0)))
theorem zaex:zaf ZP sg 0 Tryz.f175 @zr6 4:=zas zxm good Tryz.func175 zaj2 zaid zaa (fun a=>by kernel_rfl) (by kernel_rfl) (fun _ _=>rfl)
theorem zaoi:SG ZP sg 175 @z9f:=conD (loops:=zr6) good Tryz.func175 zaj2 (by kernel_rfl) zaid (all_cons zaex zaa) (fun a=>by kernel_rfl)
theorem za0s:fnB ZP 68 Tryz.f68 [4]=true:=by kernel_rfl
theorem zail:CG ZP sg @zac3:=(cgc z4k (cgc zaoi cg0))
theorem zafc:zaf ZP sg 0 Tryz.f68 @zse 4:=zas zx1 good Tryz.func68 za0s zail zaa (fun a=>by kernel_rfl) (by kernel_rfl) (fun _ _=>rfl)
theorem zaou:SG ZP sg 68 @z9n:=conD (loops:=zse) good Tryz.func68 za0s (by kernel_rfl) zail (all_cons zafc zaa) (fun a=>by kernel_rfl)
theorem za0t:fnB ZP 69 Tryz.f69 [4]=true:=by kernel_rfl
theorem zaih:CG ZP sg @zacz:=cg0
theorem zae8:zaf ZP sg 0 Tryz.f69 @zsa 4:=zas zxx good Tryz.func69 za0t zaih zaa (fun a=>by kernel_rfl) (by kernel_rfl) (fun _ _=>rfl)
theorem z4j:SG ZP sg 69 @z9l:=conD (loops:=zsa) good Tryz.func69 za0t (by kernel_rfl) zaih (all_cons zae8 zaa) (fun a=>by kernel_rfl)
theorem zaq5:SG ZP sg 261 @zaw2:=conE good Tryz.func261 (by kernel_rfl) (by kernel_rfl) cg0 (fun a=>by kernel_rfl)
theorem zaqo:SG ZP sg 262 @zaws:=conE good Tryz.func262 (by kernel_rfl) (by kernel_rfl) cg0 (fun a=>by kernel_rfl)
theorem zaqj:SG ZP sg 176 @zaay:=conE good Tryz.func176 (by kernel_rfl) (by kernel_rfl) (cgc zaq5 (cgc zaqo cg0)) (fun a=>by kernel_rfl)
theorem zaeh:fnB ZP 70 Tryz.f70 [4,12,15]=true:=by kernel_rfl
theorem zadx:CG ZP sg @zanq:=(cgc zaqj cg0)
theorem zatf:zaf ZP sg 0 Tryz.f70 @ziz 4:=zas z61 good Tryz.func70 zaeh zadx zaa (fun a=>by kernel_rfl) (by kernel_rfl) (fun _ _=>rfl)
theorem zy6:zaf ZP sg 0 Tryz.f70 @ziz 15:=zas zyz good Tryz.func70 zaeh zadx zaa (fun a=>by kernel_rfl) (by kernel_rfl) (fun _ _=>rfl)
theorem zaf9:zaf ZP sg 0 Tryz.f70 @ziz 12:=zas zyy good Tryz.func70 zaeh zadx (all_cons zy6 zaa) (fun a=>by kernel_rfl) (by kernel_rfl) (fun _ _=>rfl)
theorem zaz3:SG ZP sg 70 @zamt:=conD (loops:=ziz) good Tryz.func70 zaeh (by kernel_rfl) zadx (all_cons zatf (all_cons zaf9 (all_cons zy6 zaa))) (fun a=>by kernel_rfl)
theorem zaru:SG ZP sg 177 @zabl:=conE good Tryz.func177 (by kernel_rfl) (by kernel_rfl) cg0 (fun a=>by kernel_rfl)
theorem za0u:fnB ZP 71 Tryz.f71 [4]=true:=by kernel_rfl
theorem zaic:CG ZP sg @zaco:=(cgc zaru cg0)
theorem zaew:zaf ZP sg 0 Tryz.f71 @zr5 4:=zas zxl good Tryz.func71 za0u zaic zaa (fun a=>by kernel_rfl) (by kernel_rfl) (fun _ _=>rfl)
theorem zaoh:SG ZP sg 71 @z9e:=conD (loops:=zr5) good Tryz.func71 za0u (by kernel_rfl) zaic (all_cons zaew zaa) (fun a=>by kernel_rfl)
theorem z4n:SG ZP sg 263 @zau8:=conE good Tryz.func263 (by kernel_rfl) (by kernel_rfl) cg0 (fun a=>by kernel_rfl)
theorem zapy:SG ZP sg 178 @zaam:=conE good Tryz.func178 (by kernel_rfl) (by kernel_rfl) (cgc z4n cg0) (fun a=>by kernel_rfl)
theorem zask:fnB ZP 72 Tryz.f72 [4,9]=true:=by kernel_rfl
theorem zan4:CG ZP sg @zann:=(cgc zapy cg0)
theorem z7s:zaf ZP sg 0 Tryz.f72 @zpp 9:=zas z6y good Tryz.func72 zask zan4 zaa (fun a=>by kernel_rfl) (by kernel_rfl) (fun _ _=>rfl)
theorem zatc:zaf ZP sg 0 Tryz.f72 @zpp 4:=zas z6x good Tryz.func72 zask zan4 (all_cons z7s zaa) (fun a=>by kernel_rfl) (by kernel_rfl) (fun _ _=>rfl)
theorem zaz1:SG ZP sg 72 @zams:=conD (loops:=zpp) good Tryz.func72 zask (by kernel_rfl) zan4 (all_cons zatc (all_cons z7s zaa)) (fun a=>by kernel_rfl)
theorem zasl:fnB ZP 73 Tryz.f73 [6,11]=true:=by kernel_rfl
theorem zan7:CG ZP sg @zan0:=cg0
theorem zatq:zaf ZP sg 0 Tryz.f73 @zps 6:=zas z7f good Tryz.func73 zasl zan7 zaa (fun a=>by kernel_rfl) (by kernel_rfl) (fun _ _=>rfl)
theorem zage:zaf ZP sg 0 Tryz.f73 @zps 11:=zas zy4 good Tryz.func73 zasl zan7 zaa (fun a=>by kernel_rfl) (by kernel_rfl) (fun _ _=>rfl)
theorem za0d:SG ZP sg 73 @zamy:=conD (loops:=zps) good Tryz.func73 zasl (by kernel_rfl) zan7 (all_cons zatq (all_cons zage zaa)) (fun a=>by kernel_rfl)
theorem zaj3:fnB ZP 179 Tryz.f179 [2]=true:=by kernel_rfl
theorem zah7:CG ZP sg @zacj:=cg0
theorem zaer:zaf ZP sg 0 Tryz.f179 @zr0 2:=zas zxg good Tryz.func179 zaj3 zah7 zaa (fun a=>by kernel_rfl) (by kernel_rfl) (fun _ _=>rfl)
theorem zaod:SG ZP sg 179 @zaus:=conD (loops:=zr0) good Tryz.func179 zaj3 (by kernel_rfl) zah7 (all_cons zaer zaa) (fun a=>by kernel_rfl)
theorem zhs:SG ZP sg 74 @zp4:=conE good Tryz.func74 (by kernel_rfl) (by kernel_rfl) (cgc zaod cg0) (fun a=>by kernel_rfl)
theorem zaqk:SG ZP sg 85 @zaaz:=conE good Tryz.func85 (by kernel_rfl) (by kernel_rfl) cg0 (fun a=>by kernel_rfl)
theorem zar0:SG ZP sg 306 @zaxo:=conE good Tryz.func306 (by kernel_rfl) (by kernel_rfl) cg0 (fun a=>by kernel_rfl)
theorem zaql:SG ZP sg 275 @zawq:=conE good Tryz.func275 (by kernel_rfl) (by kernel_rfl) (cgc zar0 cg0) (fun a=>by kernel_rfl)
theorem zard:SG ZP sg 276 @zaw8:=conE good Tryz.func276 (by kernel_rfl) (by kernel_rfl) cg0 (fun a=>by kernel_rfl)
theorem zapo:SG ZP sg 307 @z95:=conE good Tryz.func307 (by kernel_rfl) (by kernel_rfl) cg0 (fun a=>by kernel_rfl)
theorem zakh:fnB ZP 277 Tryz.f277 [3]=true:=by kernel_rfl
theorem zaik:CG ZP sg @zac2:=(cgc zapo cg0)
theorem zafb:zaf ZP sg 0 Tryz.f277 @zsd 3:=zas zx0 good Tryz.func277 zakh zaik zaa (fun a=>by kernel_rfl) (by kernel_rfl) (fun _ _=>rfl)
theorem zaot:SG ZP sg 277 @zau3:=conD (loops:=zsd) good Tryz.func277 zakh (by kernel_rfl) zaik (all_cons zafb zaa) (fun a=>by kernel_rfl)
theorem zaqc:SG ZP sg 278 @zawf:=conE good Tryz.func278 (by kernel_rfl) (by kernel_rfl) cg0 (fun a=>by kernel_rfl)
theorem zar8:SG ZP sg 279 @zaxw:=conE good Tryz.func279 (by kernel_rfl) (by kernel_rfl) cg0 (fun a=>by kernel_rfl)
theorem z44:SG ZP sg 200 @zwa:=conE good Tryz.func200 (by kernel_rfl) (by kernel_rfl) (cgc zaql (cgc zard (cgc zaot (cgc zaqc (cgc zar8 cg0))))) (fun a=>by kernel_rfl)
theorem zaj4:fnB ZP 180 Tryz.f180 [5]=true:=by kernel_rfl
theorem zaij:CG ZP sg @zac1:=(cgc zaqk (cgc z44 cg0))
theorem zafa:zaf ZP sg 0 Tryz.f180 @zsc 5:=zas zxz good Tryz.func180 zaj4 zaij zaa (fun a=>by kernel_rfl) (by kernel_rfl) (fun _ _=>rfl)
theorem zaos:SG ZP sg 180 @z9m:=conD (loops:=zsc) good Tryz.func180 zaj4 (by kernel_rfl) zaij (all_cons zafa zaa) (fun a=>by kernel_rfl)
theorem za0v:fnB ZP 84 Tryz.f84 [2]=true:=by kernel_rfl
theorem zazl:CG ZP sg @zano:=cg0
theorem zatd:zaf ZP sg 0 Tryz.f84 @zze 2:=zas z6z good Tryz.func84 za0v zazl zaa (fun a=>by kernel_rfl) (by kernel_rfl) (fun _ _=>rfl)
theorem zjn:SG ZP sg 84 @zn2:=conD (loops:=zze) good Tryz.func84 za0v (by kernel_rfl) zazl (all_cons zatd zaa) (fun a=>by kernel_rfl)
theorem zasm:fnB ZP 75 Tryz.f75 [4,15]=true:=by kernel_rfl
theorem z34:CG ZP sg @zacs:=(cgc zjn (cgc z4k (cgc zaos cg0)))
theorem zae1:zaf ZP sg 0 Tryz.f75 @zkb 4:=zas zxq good Tryz.func75 zasm z34 zaa (fun a=>by kernel_rfl) (by kernel_rfl) (fun _ _=>rfl)
theorem z7k:zaf ZP sg 0 Tryz.f75 @zkb 15:=zas zro good Tryz.func75 zasm z34 zaa (fun a=>by kernel_rfl) (by kernel_rfl) (fun _ _=>rfl)
theorem zaol:SG ZP sg 75 @z9h:=conD (loops:=zkb) good Tryz.func75 zasm (by kernel_rfl) z34 (all_cons zae1 (all_cons z7k zaa)) (fun a=>by kernel_rfl)
theorem zaq7:SG ZP sg 111 @zabc:=conE good Tryz.func111 (by kernel_rfl) (by kernel_rfl) cg0 (fun a=>by kernel_rfl)
theorem zaj6:fnB ZP 201 Tryz.f201 [2]=true:=by kernel_rfl
theorem zaif:CG ZP sg @zacu:=cg0
theorem zae3:zaf ZP sg 0 Tryz.f201 @zr8 2:=zas zxs good Tryz.func201 zaj6 zaif zaa (fun a=>by kernel_rfl) (by kernel_rfl) (fun _ _=>rfl)
theorem z4h:SG ZP sg 201 @z9j:=conD (loops:=zr8) good Tryz.func201 zaj6 (by kernel_rfl) zaif (all_cons zae3 zaa) (fun a=>by kernel_rfl)
theorem zaqm:SG ZP sg 122 @zaa0:=conE good Tryz.func122 (by kernel_rfl) (by kernel_rfl) (cgc z4h cg0) (fun a=>by kernel_rfl)
theorem zasn:fnB ZP 76 Tryz.f76 [2,10]=true:=by kernel_rfl
theorem z33:CG ZP sg @zacr:=(cgc zhs (cgc zjn (cgc zaq7 (cgc zaqm cg0))))
theorem zae0:zaf ZP sg 0 Tryz.f76 @zka 2:=zas zxp good Tryz.func76 zasn z33 zaa (fun a=>by kernel_rfl) (by kernel_rfl) (fun _ _=>rfl)
theorem z7j:zaf ZP sg 0 Tryz.f76 @zka 10:=zas zrn good Tryz.func76 zasn z33 zaa (fun a=>by kernel_rfl) (by kernel_rfl) (fun _ _=>rfl)
theorem zaok:SG ZP sg 76 @z9g:=conD (loops:=zka) good Tryz.func76 zasn (by kernel_rfl) z33 (all_cons zae0 (all_cons z7j zaa)) (fun a=>by kernel_rfl)
theorem zajn:fnB ZP 105 Tryz.f105 [2]=true:=by kernel_rfl
theorem zaig:CG ZP sg @zacy:=cg0
theorem zae7:zaf ZP sg 0 Tryz.f105 @zr9 2:=zas zxw good Tryz.func105 zajn zaig zaa (fun a=>by kernel_rfl) (by kernel_rfl) (fun _ _=>rfl)
theorem z4i:SG ZP sg 105 @zv3:=conD (loops:=zr9) good Tryz.func105 zajn (by kernel_rfl) zaig (all_cons zae7 zaa) (fun a=>by kernel_rfl)
theorem zaso:fnB ZP 77 Tryz.f77 [2,18]=true:=by kernel_rfl
theorem z35:CG ZP sg @zact:=(cgc zhs (cgc zjn (cgc z4i cg0)))
theorem zae2:zaf ZP sg 0 Tryz.f77 @zkc 2:=zas zxr good Tryz.func77 zaso z35 zaa (fun a=>by kernel_rfl) (by kernel_rfl) (fun _ _=>rfl)
theorem z7l:zaf ZP sg 0 Tryz.f77 @zkc 18:=zas zrp good Tryz.func77 zaso z35 zaa (fun a=>by kernel_rfl) (by kernel_rfl) (fun _ _=>rfl)
theorem zaom:SG ZP sg 77 @z9i:=conD (loops:=zkc) good Tryz.func77 zaso (by kernel_rfl) z35 (all_cons zae2 (all_cons z7l zaa)) (fun a=>by kernel_rfl)
theorem zash:fnB ZP 21 Tryz.f21 [6,11]=true:=by kernel_rfl
theorem z39:CG ZP sg @zacx:=(cgc zaou (cgc z4j (cgc zaz3 (cgc zaoh (cgc zaz1 (cgc za0d (cgc zhs (cgc zaol (cgc zaok (cgc zaom cg0))))))))))
theorem zae6:zaf ZP sg 0 Tryz.f21 @zkf 6:=zas zxv good Tryz.func21 zash z39 zaa (fun a=>by kernel_rfl) (by kernel_rfl) (fun _ _=>rfl)
theorem z7o:zaf ZP sg 0 Tryz.f21 @zkf 11:=zas zrs good Tryz.func21 zash z39 zaa (fun a=>by kernel_rfl) (by kernel_rfl) (fun _ _=>rfl)
theorem zaoq:SG ZP sg 21 @zau2:=conD (loops:=zkf) good Tryz.func21 zash (by kernel_rfl) z39 (all_cons zae6 (all_cons z7o zaa)) (fun a=>by kernel_rfl)
theorem zar9:SG ZP sg 22 @zaxx:=conE good Tryz.func22 (by kernel_rfl) (by kernel_rfl) (cgc zazt (cgc zaoq cg0)) (fun a=>by kernel_rfl)
theorem zaq4:SG ZP sg 17 @zaw1:=conE good Tryz.func17 (by kernel_rfl) (by kernel_rfl) cg0 (fun a=>by kernel_rfl)
theorem zaqa:SG ZP sg 181 @zaau:=conE good Tryz.func181 (by kernel_rfl) (by kernel_rfl) cg0 (fun a=>by kernel_rfl)
theorem z0u:fnB ZP 80 Tryz.f80 [2]=true:=by kernel_rfl
theorem zazi:CG ZP sg @zanj:=(cgc zaqa cg0)
theorem zas7:zaf ZP sg 0 Tryz.f80 @zzb 2:=zas z6s good Tryz.func80 z0u zazi zaa (fun a=>by kernel_rfl) (by kernel_rfl) (fun _ _=>rfl)
theorem zazx:SG ZP sg 80 @za3c:=conD (loops:=zzb) good Tryz.func80 z0u (by kernel_rfl) zazi (all_cons zas7 zaa) (fun a=>by kernel_rfl)
theorem zgn:SG ZP sg 78 @zll:=conE good Tryz.func78 (by kernel_rfl) (by kernel_rfl) (cgc zazx cg0) (fun a=>by kernel_rfl)
theorem z5j:SG ZP sg 79 @zaa8:=conE good Tryz.func79 (by kernel_rfl) (by kernel_rfl) cg0 (fun a=>by kernel_rfl)
theorem zaps:SG ZP sg 81 @zaaa:=conE good Tryz.func81 (by kernel_rfl) (by kernel_rfl) cg0 (fun a=>by kernel_rfl)
theorem zw2:CG ZP sg @z0b:=(cgc zaps cg0)
theorem z1c:zaf ZP sg 0 Tryz.f80 @zkk 2:=zas zm7 good Tryz.func80 z0u zw2 zaa (fun a=>by kernel_rfl) (by kernel_rfl) (fun _ _=>rfl)
theorem z5h:SG ZP sg 80 @zaa6:=conD (loops:=zkk) good Tryz.func80 z0u (by kernel_rfl) zw2 (all_cons z1c zaa) (fun a=>by kernel_rfl)
theorem z45:SG ZP sg 83 @zav8:=conS (loops:=l0) (ids:=[]) good Tryz.func83 (by kernel_rfl) (by kernel_rfl) cg0 zaa (fun a=>by kernel_rfl) (by kernel_rfl)
theorem zol:SG ZP sg 62 @zaac:=conE good Tryz.func62 (by kernel_rfl) (by kernel_rfl) cg0 (fun a=>by kernel_rfl)
theorem zaqx:SG ZP sg 166 @zaa7:=conE good Tryz.func166 (by kernel_rfl) (by kernel_rfl) (cgc zol (cgc (sgP z5e) cg0)) (fun a=>by kernel_rfl)
theorem zok:SG ZP sg 162 @z93:=conE good Tryz.func162 (by kernel_rfl) (by kernel_rfl) cg0 (fun a=>by kernel_rfl)
theorem zarz:SG ZP sg 238 @zaxn:=conE good Tryz.func238 (by kernel_rfl) (by kernel_rfl) (cgc zok cg0) (fun a=>by kernel_rfl)
theorem zary:SG ZP sg 239 @zaxm:=conE good Tryz.func239 (by kernel_rfl) (by kernel_rfl) (cgc zok cg0) (fun a=>by kernel_rfl)
theorem z5b:SG ZP sg 241 @zawa:=conE good Tryz.func241 (by kernel_rfl) (by kernel_rfl) cg0 (fun a=>by kernel_rfl)
theorem zar1:SG ZP sg 240 @zaxp:=conE good Tryz.func240 (by kernel_rfl) (by kernel_rfl) (cgc z5b cg0) (fun a=>by kernel_rfl)
theorem z5k:SG ZP sg 163 @zaa9:=conE good Tryz.func163 (by kernel_rfl) (by kernel_rfl) (cgc zok (cgc zarz (cgc zary (cgc zar1 (cgc z5b cg0))))) (fun a=>by kernel_rfl)
theorem za0q:fnB ZP 58 Tryz.f58 [5]=true:=by kernel_rfl
theorem zai1:CG ZP sg @zadj:=(cgc z5j (cgc zok (cgc z5k cg0)))
theorem zafs:zaf ZP sg 0 Tryz.f58 @zsu 5:=zas zyh good Tryz.func58 za0q zai1 zaa (fun a=>by kernel_rfl) (by kernel_rfl) (fun _ _=>rfl)
theorem zapa:SG ZP sg 58 @z9z:=conD (loops:=zsu) good Tryz.func58 za0q (by kernel_rfl) zai1 (all_cons zafs zaa) (fun a=>by kernel_rfl)
theorem zaee:fnB ZP 63 Tryz.f63 [4,10,16]=true:=by kernel_rfl
theorem zad0:CG ZP sg @zanv:=(cgc zapa (cgc zgn (cgc zaqx cg0)))
theorem zatl:zaf ZP sg 0 Tryz.f63 @zi2 4:=zas z69 good Tryz.func63 zaee zad0 zaa (fun a=>by kernel_rfl) (by kernel_rfl) (fun _ _=>rfl)
theorem zagc:zaf ZP sg 0 Tryz.f63 @zi2 10:=zas zy2 good Tryz.func63 zaee zad0 zaa (fun a=>by kernel_rfl) (by kernel_rfl) (fun _ _=>rfl)
theorem zagd:zaf ZP sg 0 Tryz.f63 @zi2 16:=zas zy3 good Tryz.func63 zaee zad0 zaa (fun a=>by kernel_rfl) (by kernel_rfl) (fun _ _=>rfl)
theorem zaz9:SG ZP sg 63 @za3j:=conD (loops:=zi2) good Tryz.func63 zaee (by kernel_rfl) zad0 (all_cons zatl (all_cons zagc (all_cons zagd zaa))) (fun a=>by kernel_rfl)
theorem zao4:SG ZP sg 245 @z9p:=conE good Tryz.func245 (by kernel_rfl) (by kernel_rfl) (cgc (sgP z5e) (cgc (sgP zaq2) cg0)) (fun a=>by kernel_rfl)
theorem zajv:fnB ZP 167 Tryz.f167 [5]=true:=by kernel_rfl
theorem zaiw:CG ZP sg @zade:=(cgc zao4 cg0)
theorem zafn:zaf ZP sg 0 Tryz.f167 @zsp 5:=zas zyc good Tryz.func167 zajv zaiw zaa (fun a=>by kernel_rfl) (by kernel_rfl) (fun _ _=>rfl)
theorem z4v:SG ZP sg 167 @z9u:=conD (loops:=zsp) good Tryz.func167 zajv (by kernel_rfl) zaiw (all_cons zafn zaa) (fun a=>by kernel_rfl)
theorem zaqp:SG ZP sg 246 @zaa1:=conE good Tryz.func246 (by kernel_rfl) (by kernel_rfl) cg0 (fun a=>by kernel_rfl)
theorem z5c:SG ZP sg 219 @zaan:=conE good Tryz.func219 (by kernel_rfl) (by kernel_rfl) cg0 (fun a=>by kernel_rfl)
theorem zajw:fnB ZP 168 Tryz.f168 [4]=true:=by kernel_rfl
theorem zaix:CG ZP sg @zadf:=(cgc z5c (cgc zaqp cg0))
theorem zafo:zaf ZP sg 0 Tryz.f168 @zsq 4:=zas zyd good Tryz.func168 zajw zaix zaa (fun a=>by kernel_rfl) (by kernel_rfl) (fun _ _=>rfl)
theorem z4w:SG ZP sg 168 @z9w:=conD (loops:=zsq) good Tryz.func168 zajw (by kernel_rfl) zaix (all_cons zafo zaa) (fun a=>by kernel_rfl)
theorem zub:SG ZP sg 284 @zav1:=conE good Tryz.func284 (by kernel_rfl) (by kernel_rfl) cg0 (fun a=>by kernel_rfl)
theorem zarf:SG ZP sg 298 @zaw9:=conE good Tryz.func298 (by kernel_rfl) (by kernel_rfl) (cgc zub cg0) (fun a=>by kernel_rfl)
theorem zarq:SG ZP sg 247 @zabi:=conE good Tryz.func247 (by kernel_rfl) (by kernel_rfl) (cgc zub (cgc zarf cg0)) (fun a=>by kernel_rfl)
theorem zapw:SG ZP sg 249 @zaah:=conE good Tryz.func249 (by kernel_rfl) (by kernel_rfl) cg0 (fun a=>by kernel_rfl)
theorem zmv:fnB ZP 248 Tryz.f248 [2,5]=true:=by kernel_rfl
theorem zan3:CG ZP sg @zani:=(cgc zapw cg0)
theorem z7r:zaf ZP sg 0 Tryz.f248 @zpo 5:=zas z6r good Tryz.func248 zmv zan3 zaa (fun a=>by kernel_rfl) (by kernel_rfl) (fun _ _=>rfl)
theorem zas6:zaf ZP sg 0 Tryz.f248 @zpo 2:=zas z6q good Tryz.func248 zmv zan3 (all_cons z7r zaa) (fun a=>by kernel_rfl) (by kernel_rfl) (fun _ _=>rfl)
theorem zazw:SG ZP sg 248 @zamo:=conD (loops:=zpo) good Tryz.func248 zmv (by kernel_rfl) zan3 (all_cons zas6 (all_cons z7r zaa)) (fun a=>by kernel_rfl)
theorem zaqi:SG ZP sg 250 @zaax:=conE good Tryz.func250 (by kernel_rfl) (by kernel_rfl) cg0 (fun a=>by kernel_rfl)
theorem zoh:CG ZP sg @z0a:=(cgc zaqi cg0)
theorem znc:zaf ZP sg 0 Tryz.f248 @zgr 5:=zas zm6 good Tryz.func248 zmv zoh zaa (fun a=>by kernel_rfl) (by kernel_rfl) (fun _ _=>rfl)
theorem z1b:zaf ZP sg 0 Tryz.f248 @zgr 2:=zas zm5 good Tryz.func248 zmv zoh (all_cons znc zaa) (fun a=>by kernel_rfl) (by kernel_rfl) (fun _ _=>rfl)
theorem z5d:SG ZP sg 248 @ztl:=conD (loops:=zgr) good Tryz.func248 zmv (by kernel_rfl) zoh (all_cons z1b (all_cons znc zaa)) (fun a=>by kernel_rfl)
theorem zajx:fnB ZP 169 Tryz.f169 [4]=true:=by kernel_rfl
theorem zazk:CG ZP sg @zanm:=(cgc zarq (cgc (sgi zazw (sgi z5d sg0)) cg0))
theorem zatb:zaf ZP sg 0 Tryz.f169 @zzd 4:=zas z6w good Tryz.func169 zajx zazk zaa (fun a=>by kernel_rfl) (by kernel_rfl) (fun _ _=>rfl)
theorem zaje:SG ZP sg 169 @zamr:=conD (loops:=zzd) good Tryz.func169 zajx (by kernel_rfl) zazk (all_cons zatb zaa) (fun a=>by kernel_rfl)
theorem zaqv:SG ZP sg 299 @zawv:=conE good Tryz.func299 (by kernel_rfl) (by kernel_rfl) cg0 (fun a=>by kernel_rfl)
theorem z5l:SG ZP sg 280 @zawz:=conE good Tryz.func280 (by kernel_rfl) (by kernel_rfl) cg0 (fun a=>by kernel_rfl)
theorem zapu:SG ZP sg 251 @zaad:=conE good Tryz.func251 (by kernel_rfl) (by kernel_rfl) (cgc z5l (cgc zaqv cg0)) (fun a=>by kernel_rfl)
theorem zajy:fnB ZP 170 Tryz.f170 [4]=true:=by kernel_rfl
theorem zaiy:CG ZP sg @zadg:=(cgc zapu cg0)
theorem zafp:zaf ZP sg 0 Tryz.f170 @zsr 4:=zas zye good Tryz.func170 zajy zaiy zaa (fun a=>by kernel_rfl) (by kernel_rfl) (fun _ _=>rfl)
theorem z4x:SG ZP sg 170 @z9x:=conD (loops:=zsr) good Tryz.func170 zajy (by kernel_rfl) zaiy (all_cons zafp zaa) (fun a=>by kernel_rfl)
theorem z4p:SG ZP sg 268 @zavd:=conE good Tryz.func268 (by kernel_rfl) (by kernel_rfl) cg0 (fun a=>by kernel_rfl)
theorem zaqt:SG ZP sg 252 @zaa4:=conE good Tryz.func252 (by kernel_rfl) (by kernel_rfl) (cgc z4p cg0) (fun a=>by kernel_rfl)
theorem z47:SG ZP sg 253 @zaai:=conE good Tryz.func253 (by kernel_rfl) (by kernel_rfl) cg0 (fun a=>by kernel_rfl)
theorem zakl:fnB ZP 300 Tryz.f300 [2]=true:=by kernel_rfl
theorem zaie:CG ZP sg @zacq:=(cgc z47 cg0)
theorem zaey:zaf ZP sg 0 Tryz.f300 @zr7 2:=zas zxn good Tryz.func300 zakl zaie zaa (fun a=>by kernel_rfl) (by kernel_rfl) (fun _ _=>rfl)
theorem zaoj:SG ZP sg 300 @zaux:=conD (loops:=zr7) good Tryz.func300 zakl (by kernel_rfl) zaie (all_cons zaey zaa) (fun a=>by kernel_rfl)
theorem zaqq:SG ZP sg 254 @zaa2:=conE good Tryz.func254 (by kernel_rfl) (by kernel_rfl) (cgc z47 (cgc zaoj cg0)) (fun a=>by kernel_rfl)
theorem zajz:fnB ZP 171 Tryz.f171 [4]=true:=by kernel_rfl
theorem zazq:CG ZP sg @zanz:=(cgc zaqt (cgc zaqq cg0))
theorem zatp:zaf ZP sg 0 Tryz.f171 @zzj 4:=zas z7e good Tryz.func171 zajz zazq zaa (fun a=>by kernel_rfl) (by kernel_rfl) (fun _ _=>rfl)
theorem za0c:SG ZP sg 171 @zamx:=conD (loops:=zzj) good Tryz.func171 zajz (by kernel_rfl) zazq (all_cons zatp zaa) (fun a=>by kernel_rfl)
theorem zud:SG ZP sg 257 @zaap:=conE good Tryz.func257 (by kernel_rfl) (by kernel_rfl) cg0 (fun a=>by kernel_rfl)
theorem z4z:SG ZP sg 256 @z97:=conE good Tryz.func256 (by kernel_rfl) (by kernel_rfl) (cgc zud cg0) (fun a=>by kernel_rfl)
theorem zakm:fnB ZP 301 Tryz.f301 [2]=true:=by kernel_rfl
theorem zait:CG ZP sg @zadb:=(cgc z4z cg0)
theorem zafk:zaf ZP sg 0 Tryz.f301 @zsm 2:=zas zx9 good Tryz.func301 zakm zait zaa (fun a=>by kernel_rfl) (by kernel_rfl) (fun _ _=>rfl)
theorem zao5:SG ZP sg 301 @zavi:=conD (loops:=zsm) good Tryz.func301 zakm (by kernel_rfl) zait (all_cons zafk zaa) (fun a=>by kernel_rfl)
theorem zaqr:SG ZP sg 255 @zaa3:=conE good Tryz.func255 (by kernel_rfl) (by kernel_rfl) (cgc z4z (cgc zao5 cg0)) (fun a=>by kernel_rfl)
theorem zaj0:fnB ZP 172 Tryz.f172 [8]=true:=by kernel_rfl
theorem zazp:CG ZP sg @zanx:=(cgc zaqr cg0)
theorem zatn:zaf ZP sg 0 Tryz.f172 @zzi 8:=zas z7b good Tryz.func172 zaj0 zazp zaa (fun a=>by kernel_rfl) (by kernel_rfl) (fun _ _=>rfl)
theorem zajf:SG ZP sg 172 @zamv:=conD (loops:=zzi) good Tryz.func172 zaj0 (by kernel_rfl) zazp (all_cons zatn zaa) (fun a=>by kernel_rfl)
theorem zaef:fnB ZP 64 Tryz.f64 [4,12,18]=true:=by kernel_rfl
theorem zadz:CG ZP sg @zanu:=(cgc zol (cgc z4v (cgc z4w (cgc zaje (cgc z4x (cgc za0c (cgc zajf cg0)))))))
theorem zatk:zaf ZP sg 0 Tryz.f64 @zi1 4:=zas z68 good Tryz.func64 zaef zadz zaa (fun a=>by kernel_rfl) (by kernel_rfl) (fun _ _=>rfl)
theorem zaga:zaf ZP sg 0 Tryz.f64 @zi1 12:=zas zy0 good Tryz.func64 zaef zadz zaa (fun a=>by kernel_rfl) (by kernel_rfl) (fun _ _=>rfl)
theorem zagb:zaf ZP sg 0 Tryz.f64 @zi1 18:=zas zy1 good Tryz.func64 zaef zadz zaa (fun a=>by kernel_rfl) (by kernel_rfl) (fun _ _=>rfl)
theorem zaz8:SG ZP sg 64 @za3i:=conD (loops:=zi1) good Tryz.func64 zaef (by kernel_rfl) zadz (all_cons zatk (all_cons zaga (all_cons zagb zaa))) (fun a=>by kernel_rfl)
theorem zapq:SG ZP sg 265 @z98:=conE good Tryz.func265 (by kernel_rfl) (by kernel_rfl) cg0 (fun a=>by kernel_rfl)
theorem zxb:fnB ZP 185 Tryz.f185 [2]=true:=by kernel_rfl
theorem zazn:CG ZP sg @zanr:=(cgc zapq cg0)
theorem zatg:zaf ZP sg 0 Tryz.f185 @zzg 2:=zas z62 good Tryz.func185 zxb zazn zaa (fun a=>by kernel_rfl) (by kernel_rfl) (fun _ _=>rfl)
theorem zaz4:SG ZP sg 185 @za3f:=conD (loops:=zzg) good Tryz.func185 zxb (by kernel_rfl) zazn (all_cons zatg zaa) (fun a=>by kernel_rfl)
theorem z4q:SG ZP sg 184 @zave:=conE good Tryz.func184 (by kernel_rfl) (by kernel_rfl) (cgc zaz4 cg0) (fun a=>by kernel_rfl)
theorem zjm:SG ZP sg 90 @zav7:=conE good Tryz.func90 (by kernel_rfl) (by kernel_rfl) (cgc z4q cg0) (fun a=>by kernel_rfl)
theorem zapv:SG ZP sg 173 @zaaf:=conE good Tryz.func173 (by kernel_rfl) (by kernel_rfl) (cgc zjm cg0) (fun a=>by kernel_rfl)
theorem zaeg:fnB ZP 65 Tryz.f65 [3,9,15]=true:=by kernel_rfl
theorem zadw:CG ZP sg @zank:=(cgc zgn (cgc zapv cg0))
theorem zas8:zaf ZP sg 0 Tryz.f65 @ziy 3:=zas z6t good Tryz.func65 zaeg zadw zaa (fun a=>by kernel_rfl) (by kernel_rfl) (fun _ _=>rfl)
theorem zas9:zaf ZP sg 0 Tryz.f65 @ziy 9:=zas z6u good Tryz.func65 zaeg zadw zaa (fun a=>by kernel_rfl) (by kernel_rfl) (fun _ _=>rfl)
theorem zaf8:zaf ZP sg 0 Tryz.f65 @ziy 15:=zas zyx good Tryz.func65 zaeg zadw zaa (fun a=>by kernel_rfl) (by kernel_rfl) (fun _ _=>rfl)
theorem zazz:SG ZP sg 65 @za3d:=conD (loops:=ziy) good Tryz.func65 zaeg (by kernel_rfl) zadw (all_cons zas8 (all_cons zas9 (all_cons zaf8 zaa))) (fun a=>by kernel_rfl)
theorem zjj:SG ZP sg 165 @zauy:=conE good Tryz.func165 (by kernel_rfl) (by kernel_rfl) cg0 (fun a=>by kernel_rfl)
theorem z42:SG ZP sg 243 @zaae:=conE good Tryz.func243 (by kernel_rfl) (by kernel_rfl) cg0 (fun a=>by kernel_rfl)
theorem zxc:fnB ZP 242 Tryz.f242 [2]=true:=by kernel_rfl
theorem zazm:CG ZP sg @zanp:=(cgc z42 cg0)
theorem zate:zaf ZP sg 0 Tryz.f242 @zzf 2:=zas z60 good Tryz.func242 zxc zazm zaa (fun a=>by kernel_rfl) (by kernel_rfl) (fun _ _=>rfl)
theorem zaz2:SG ZP sg 242 @za3e:=conD (loops:=zzf) good Tryz.func242 zxc (by kernel_rfl) zazm (all_cons zate zaa) (fun a=>by kernel_rfl)
theorem zjl:SG ZP sg 164 @zavo:=conE good Tryz.func164 (by kernel_rfl) (by kernel_rfl) (cgc zaz2 (cgc z42 cg0)) (fun a=>by kernel_rfl)
theorem zt8:SG ZP sg 59 @zv7:=conE good Tryz.func59 (by kernel_rfl) (by kernel_rfl) (cgc zjl (cgc zjj cg0)) (fun a=>by kernel_rfl)
theorem za0r:fnB ZP 66 Tryz.f66 [2]=true:=by kernel_rfl
theorem zai5:CG ZP sg @zadn:=(cgc zt8 cg0)
theorem zafv:zaf ZP sg 0 Tryz.f66 @zsy 2:=zas zyk good Tryz.func66 za0r zai5 zaa (fun a=>by kernel_rfl) (by kernel_rfl) (fun _ _=>rfl)
theorem zapf:SG ZP sg 66 @zavq:=conD (loops:=zsy) good Tryz.func66 za0r (by kernel_rfl) zai5 (all_cons zafv zaa) (fun a=>by kernel_rfl)
theorem zapn:SG ZP sg 197 @z94:=conE good Tryz.func197 (by kernel_rfl) (by kernel_rfl) cg0 (fun a=>by kernel_rfl)
theorem zl6:fnB ZP 99 Tryz.f99 [2]=true:=by kernel_rfl
theorem zazh:CG ZP sg @zang:=(cgc zapn cg0)
theorem zas4:zaf ZP sg 0 Tryz.f99 @zza 2:=zas z6o good Tryz.func99 zl6 zazh zaa (fun a=>by kernel_rfl) (by kernel_rfl) (fun _ _=>rfl)
theorem zazu:SG ZP sg 99 @za3a:=conD (loops:=zza) good Tryz.func99 zl6 (by kernel_rfl) zazh (all_cons zas4 zaa) (fun a=>by kernel_rfl)
theorem zt7:SG ZP sg 96 @z9v:=conE good Tryz.func96 (by kernel_rfl) (by kernel_rfl) (cgc zazu cg0) (fun a=>by kernel_rfl)
theorem zasj:fnB ZP 67 Tryz.f67 [2,16]=true:=by kernel_rfl
theorem z36:CG ZP sg @zacv:=(cgc zgn (cgc zt7 cg0))
theorem zae4:zaf ZP sg 0 Tryz.f67 @zkd 2:=zas zxt good Tryz.func67 zasj z36 zaa (fun a=>by kernel_rfl) (by kernel_rfl) (fun _ _=>rfl)
theorem z7m:zaf ZP sg 0 Tryz.f67 @zkd 16:=zas zrq good Tryz.func67 zasj z36 zaa (fun a=>by kernel_rfl) (by kernel_rfl) (fun _ _=>rfl)
theorem zaoo:SG ZP sg 67 @zau0:=conD (loops:=zkd) good Tryz.func67 zasj (by kernel_rfl) z36 (all_cons zae4 (all_cons z7m zaa)) (fun a=>by kernel_rfl)
theorem z5n:SG ZP sg 20 @zaxb:=conE good Tryz.func20 (by kernel_rfl) (by kernel_rfl) (cgc zol (cgc zaz9 (cgc zaz8 (cgc zazz (cgc zapf (cgc zaoo cg0)))))) (fun a=>by kernel_rfl)
theorem zaow:SG ZP sg 23 @zau6:=conE good Tryz.func23 (by kernel_rfl) (by kernel_rfl) (cgc z5n (cgc zgn (cgc z5j (cgc z5h (cgc (sgP zap3) (cgc z45 cg0)))))) (fun a=>by kernel_rfl)
theorem zap8:SG ZP sg 186 @zaar:=conE good Tryz.func186 (by kernel_rfl) (by kernel_rfl) cg0 (fun a=>by kernel_rfl)
theorem zw5:CG ZP sg @z0e:=(cgc zap8 cg0)
theorem z1f:zaf ZP sg 0 Tryz.f185 @zkn 2:=zas zna good Tryz.func185 zxb zw5 zaa (fun a=>by kernel_rfl) (by kernel_rfl) (fun _ _=>rfl)
theorem z5p:SG ZP sg 185 @zabn:=conD (loops:=zkn) good Tryz.func185 zxb (by kernel_rfl) zw5 (all_cons z1f zaa) (fun a=>by kernel_rfl)
theorem zap1:SG ZP sg 189 @zawc:=conS (loops:=l0) (ids:=[]) good Tryz.func189 (by kernel_rfl) (by kernel_rfl) cg0 zaa (fun a=>by kernel_rfl) (by kernel_rfl)
theorem zap6:SG ZP sg 187 @zawd:=conE good Tryz.func187 (by kernel_rfl) (by kernel_rfl) (cgc z4v cg0) (fun a=>by kernel_rfl)
theorem zao2:SG ZP sg 86 @zavg:=conE good Tryz.func86 (by kernel_rfl) (by kernel_rfl) (cgc z4q (cgc z5p (cgc zap6 (cgc (sgP zap0) (cgc zap1 cg0))))) (fun a=>by kernel_rfl)
theorem zaqh:SG ZP sg 25 @zawp:=conE good Tryz.func25 (by kernel_rfl) (by kernel_rfl) (cgc zao2 cg0) (fun a=>by kernel_rfl)
theorem zaqy:SG ZP sg 60 @zaww:=conE good Tryz.func60 (by kernel_rfl) (by kernel_rfl) (cgc zaq4 (cgc zaow (cgc zaqh cg0))) (fun a=>by kernel_rfl)
theorem zhu:SG ZP sg 88 @zav2:=conN (loops:=l0) (ids:=[]) good Tryz.func88 (by kernel_rfl) (by kernel_rfl) cg0 zaa (fun a=>by kernel_rfl)
theorem zib:SG ZP sg 91 @za3k:=conM (loops:=l0) (ids:=[]) good Tryz.func91 (by kernel_rfl) (by kernel_rfl) cg0 zaa (fun a b=>by kernel_rfl)
theorem zuj:SG ZP sg 89 @zawn:=conM (loops:=l0) (ids:=[]) good Tryz.func89 (by kernel_rfl) (by kernel_rfl) (cgc zgn (cgc zib cg0)) zaa (fun a b=>by kernel_rfl)
theorem zaqe:SG ZP sg 192 @zawh:=conS (loops:=l0) (ids:=[]) good Tryz.func192 (by kernel_rfl) (by kernel_rfl) cg0 zaa (fun a=>by kernel_rfl) (by kernel_rfl)
theorem zgo:SG ZP sg 93 @zavn:=conM (loops:=l0) (ids:=[]) good Tryz.func93 (by kernel_rfl) (by kernel_rfl) (cgc z45 (cgc zib (cgc z5k (cgc zaqe cg0)))) zaa (fun a b=>by kernel_rfl)
theorem zua:SG ZP sg 222 @zv8:=conE good Tryz.func222 (by kernel_rfl) (by kernel_rfl) cg0 (fun a=>by kernel_rfl)
theorem z5z:fnB ZP 316 Tryz.f316 [1,4]=true:=by kernel_rfl
theorem zan5:CG ZP sg @zant:=(cgc zua cg0)
theorem z7u:zaf ZP sg MA Tryz.f316 @zpq 4:=zas z67 good Tryz.func316 z5z zan5 zaa (fun a=>by kernel_rfl) (by kernel_rfl) (fun _ _=>rfl)
theorem zatj:zaf ZP sg MA Tryz.f316 @zpq 1:=zas z66 good Tryz.func316 z5z zan5 (all_cons z7u zaa) (fun a=>by kernel_rfl) (by kernel_rfl) (fun _ _=>rfl)
theorem zaz7:SG ZP sg 316 @zamu:=conI (loops:=zpq) good Tryz.func316 z5z (by kernel_rfl) zan5 (all_cons zatj (all_cons z7u zaa)) (fun a=>by kernel_rfl)
theorem zxd:fnB ZP 291 Tryz.f291 [2,7,9]=true:=by kernel_rfl
theorem zady:CG ZP sg @zans:=(cgc zua (cgc zaz7 (cgc (sgP zapp) cg0)))
theorem zath:zaf ZP sg MA Tryz.f291 @zi0 2:=zas z63 good Tryz.func291 zxd zady zaa (fun a=>by kernel_rfl) (by kernel_rfl) (fun _ _=>rfl)
theorem z7t:zaf ZP sg MA Tryz.f291 @zi0 9:=zas z65 good Tryz.func291 zxd zady zaa (fun a=>by kernel_rfl) (by kernel_rfl) (fun _ _=>rfl)
theorem zati:zaf ZP sg MA Tryz.f291 @zi0 7:=zas z64 good Tryz.func291 zxd zady (all_cons z7t zaa) (fun a=>by kernel_rfl) (by kernel_rfl) (fun _ _=>rfl)
theorem zaz5:SG ZP sg 291 @za3g:=conI (loops:=zi0) good Tryz.func291 zxd (by kernel_rfl) zady (all_cons zath (all_cons zati (all_cons z7t zaa))) (fun a=>by kernel_rfl)
theorem zapz:SG ZP sg 221 @zaao:=conI (loops:=l0) (ids:=[]) good Tryz.func221 (by kernel_rfl) (by kernel_rfl) (cgc zua (cgc zaz5 cg0)) zaa (fun a=>by kernel_rfl)
theorem zajr:fnB ZP 135 Tryz.f135 [3]=true:=by kernel_rfl
theorem zazj:CG ZP sg @zanl:=(cgc zapz cg0)
theorem zata:zaf ZP sg 0 Tryz.f135 @zzc 3:=zas z6v good Tryz.func135 zajr zazj zaa (fun a=>by kernel_rfl) (by kernel_rfl) (fun _ _=>rfl)
theorem zaz0:SG ZP sg 135 @zamq:=conD (loops:=zzc) good Tryz.func135 zajr (by kernel_rfl) zazj (all_cons zata zaa) (fun a=>by kernel_rfl)
theorem za0o:fnB ZP 35 Tryz.f35 [3]=true:=by kernel_rfl
theorem zaiz:CG ZP sg @zadh:=(cgc zaz0 cg0)
theorem zafq:zaf ZP sg 0 Tryz.f35 @zss 3:=zas zyf good Tryz.func35 za0o zaiz zaa (fun a=>by kernel_rfl) (by kernel_rfl) (fun _ _=>rfl)
theorem zao8:SG ZP sg 35 @zavl:=conD (loops:=zss) good Tryz.func35 za0o (by kernel_rfl) zaiz (all_cons zafq zaa) (fun a=>by kernel_rfl)
theorem zug:SG ZP sg 156 @zaaw:=conE good Tryz.func156 (by kernel_rfl) (by kernel_rfl) (cgc zao8 cg0) (fun a=>by kernel_rfl)
theorem zaq0:SG ZP sg 289 @zaba:=conE good Tryz.func289 (by kernel_rfl) (by kernel_rfl) cg0 (fun a=>by kernel_rfl)
theorem zwy:CG ZP sg @zz6:=(cgc zaq0 cg0)
theorem z07:zaf ZP sg 0 Tryz.f99 @zkg 2:=zas zm1 good Tryz.func99 zl6 zwy zaa (fun a=>by kernel_rfl) (by kernel_rfl) (fun _ _=>rfl)
theorem z4r:SG ZP sg 99 @z9q:=conD (loops:=zkg) good Tryz.func99 zl6 (by kernel_rfl) zwy (all_cons z07 zaa) (fun a=>by kernel_rfl)
theorem zt4:SG ZP sg 217 @zauw:=conE good Tryz.func217 (by kernel_rfl) (by kernel_rfl) (cgc z4r cg0) (fun a=>by kernel_rfl)
theorem zuc:SG ZP sg 128 @zawb:=conE good Tryz.func128 (by kernel_rfl) (by kernel_rfl) (cgc zt4 cg0) (fun a=>by kernel_rfl)
theorem zaqg:SG ZP sg 137 @zawo:=conM (loops:=l0) (ids:=[]) good Tryz.func137 (by kernel_rfl) (by kernel_rfl) (cgc zgo cg0) zaa (fun a b=>by kernel_rfl)
theorem zaq8:SG ZP sg 337 @zaw4:=conE good Tryz.func337 (by kernel_rfl) (by kernel_rfl) cg0 (fun a=>by kernel_rfl)
theorem zapt:SG ZP sg 311 @zaab:=conE good Tryz.func311 (by kernel_rfl) (by kernel_rfl) (cgc zaq8 cg0) (fun a=>by kernel_rfl)
theorem zako:fnB ZP 312 Tryz.f312 [3]=true:=by kernel_rfl
theorem zai0:CG ZP sg @zadi:=cg0
theorem zafr:zaf ZP sg 0 Tryz.f312 @zst 3:=zas zyg good Tryz.func312 zako zai0 zaa (fun a=>by kernel_rfl) (by kernel_rfl) (fun _ _=>rfl)
theorem zao9:SG ZP sg 312 @z9y:=conD (loops:=zst) good Tryz.func312 zako (by kernel_rfl) zai0 (all_cons zafr zaa) (fun a=>by kernel_rfl)
theorem zakj:fnB ZP 287 Tryz.f287 [3]=true:=by kernel_rfl
theorem zaip:CG ZP sg @zac7:=(cgc zapt (cgc zao9 cg0))
theorem zafg:zaf ZP sg 0 Tryz.f287 @zsi 3:=zas zx5 good Tryz.func287 zakj zaip zaa (fun a=>by kernel_rfl) (by kernel_rfl) (fun _ _=>rfl)
theorem zaox:SG ZP sg 287 @zau7:=conD (loops:=zsi) good Tryz.func287 zakj (by kernel_rfl) zaip (all_cons zafg zaa) (fun a=>by kernel_rfl)
theorem zap9:SG ZP sg 211 @zawe:=conE good Tryz.func211 (by kernel_rfl) (by kernel_rfl) (cgc zaox cg0) (fun a=>by kernel_rfl)
theorem zht:SG ZP sg 118 @zav0:=conE good Tryz.func118 (by kernel_rfl) (by kernel_rfl) (cgc zjm (cgc zap9 cg0)) (fun a=>by kernel_rfl)
theorem zon:SG ZP sg 120 @zav4:=conE good Tryz.func120 (by kernel_rfl) (by kernel_rfl) (cgc zol cg0) (fun a=>by kernel_rfl)
theorem zaqu:SG ZP sg 345 @zawu:=conE good Tryz.func345 (by kernel_rfl) (by kernel_rfl) cg0 (fun a=>by kernel_rfl)
theorem zaqw:SG ZP sg 324 @zaa5:=conE good Tryz.func324 (by kernel_rfl) (by kernel_rfl) (cgc zaqu cg0) (fun a=>by kernel_rfl)
theorem zaq6:SG ZP sg 349 @zabb:=conE good Tryz.func349 (by kernel_rfl) (by kernel_rfl) cg0 (fun a=>by kernel_rfl)
theorem zakp:fnB ZP 334 Tryz.f334 [3]=true:=by kernel_rfl
theorem zah8:CG ZP sg @zack:=(cgc zaqw (cgc zaq6 cg0))
theorem zaes:zaf ZP sg 0 Tryz.f334 @zr1 3:=zas zxh good Tryz.func334 zakp zah8 zaa (fun a=>by kernel_rfl) (by kernel_rfl) (fun _ _=>rfl)
theorem zaoe:SG ZP sg 334 @zaut:=conD (loops:=zr1) good Tryz.func334 zakp (by kernel_rfl) zah8 (all_cons zaes zaa) (fun a=>by kernel_rfl)
theorem zakn:fnB ZP 308 Tryz.f308 [3]=true:=by kernel_rfl
theorem zaio:CG ZP sg @zac6:=cg0
theorem zaff:zaf ZP sg 0 Tryz.f308 @zsh 3:=zas zx4 good Tryz.func308 zakn zaio zaa (fun a=>by kernel_rfl) (by kernel_rfl) (fun _ _=>rfl)
theorem z4m:SG ZP sg 308 @z9o:=conD (loops:=zsh) good Tryz.func308 zakn (by kernel_rfl) zaio (all_cons zaff zaa) (fun a=>by kernel_rfl)
theorem zar7:SG ZP sg 336 @zaxv:=conE good Tryz.func336 (by kernel_rfl) (by kernel_rfl) cg0 (fun a=>by kernel_rfl)
theorem zue:SG ZP sg 310 @zaas:=conE good Tryz.func310 (by kernel_rfl) (by kernel_rfl) (cgc zar7 cg0) (fun a=>by kernel_rfl)
theorem z41:SG ZP sg 304 @zv9:=conE good Tryz.func304 (by kernel_rfl) (by kernel_rfl) (cgc zud (cgc z4m (cgc zue (cgc zaoe cg0)))) (fun a=>by kernel_rfl)
theorem zake:fnB ZP 269 Tryz.f269 [2]=true:=by kernel_rfl
theorem zaia:CG ZP sg @zacm:=(cgc z41 cg0)
theorem zaeu:zaf ZP sg 0 Tryz.f269 @zr3 2:=zas zxj good Tryz.func269 zake zaia zaa (fun a=>by kernel_rfl) (by kernel_rfl) (fun _ _=>rfl)
theorem z4g:SG ZP sg 269 @z9d:=conD (loops:=zr3) good Tryz.func269 zake (by kernel_rfl) zaia (all_cons zaeu zaa) (fun a=>by kernel_rfl)
theorem zakb:fnB ZP 218 Tryz.f218 [9]=true:=by kernel_rfl
theorem zaiv:CG ZP sg @zadd:=(cgc zud (cgc z4g cg0))
theorem zafm:zaf ZP sg 0 Tryz.f218 @zso 9:=zas zyb good Tryz.func218 zakb zaiv zaa (fun a=>by kernel_rfl) (by kernel_rfl) (fun _ _=>rfl)
theorem zao7:SG ZP sg 218 @zavk:=conD (loops:=zso) good Tryz.func218 zakb (by kernel_rfl) zaiv (all_cons zafm zaa) (fun a=>by kernel_rfl)
theorem z5m:SG ZP sg 130 @zaw3:=conM (loops:=l0) (ids:=[]) good Tryz.func130 (by kernel_rfl) (by kernel_rfl) (cgc zib (cgc zon (cgc zao7 cg0))) zaa (fun a b=>by kernel_rfl)
theorem z48:SG ZP sg 285 @zaaj:=conE good Tryz.func285 (by kernel_rfl) (by kernel_rfl) cg0 (fun a=>by kernel_rfl)
theorem zwz:CG ZP sg @zz7:=(cgc z48 cg0)
theorem z08:zaf ZP sg 0 Tryz.f99 @zkh 2:=zas zm2 good Tryz.func99 zl6 zwz zaa (fun a=>by kernel_rfl) (by kernel_rfl) (fun _ _=>rfl)
theorem z4s:SG ZP sg 99 @z9r:=conD (loops:=zkh) good Tryz.func99 zl6 (by kernel_rfl) zwz (all_cons z08 zaa) (fun a=>by kernel_rfl)
theorem zapx:SG ZP sg 117 @zav9:=conE good Tryz.func117 (by kernel_rfl) (by kernel_rfl) (cgc z4s (cgc z48 cg0)) (fun a=>by kernel_rfl)
theorem zui:SG ZP sg 225 @zawj:=conS (loops:=l0) (ids:=[]) good Tryz.func225 (by kernel_rfl) (by kernel_rfl) cg0 zaa (fun a=>by kernel_rfl) (by kernel_rfl)
theorem zaqn:SG ZP sg 228 @zawr:=conE good Tryz.func228 (by kernel_rfl) (by kernel_rfl) (cgc zui cg0) (fun a=>by kernel_rfl)
theorem z4o:SG ZP sg 205 @zau9:=conE good Tryz.func205 (by kernel_rfl) (by kernel_rfl) (cgc zapx (cgc zt4 (cgc zaqn (cgc zub cg0)))) (fun a=>by kernel_rfl)
theorem zop:SG ZP sg 139 @zav6:=conM (loops:=l0) (ids:=[]) good Tryz.func139 (by kernel_rfl) (by kernel_rfl) (cgc zib cg0) zaa (fun a b=>by kernel_rfl)
theorem z5f:SG ZP sg 109 @zawl:=conM (loops:=l0) (ids:=[]) good Tryz.func109 (by kernel_rfl) (by kernel_rfl) (cgc zgo (cgc zht (cgc z5m (cgc zop (cgc z4o cg0))))) zaa (fun a b=>by kernel_rfl)
theorem zt9:SG ZP sg 110 @z96:=conM (loops:=l0) (ids:=[]) good Tryz.func110 (by kernel_rfl) (by kernel_rfl) (cgc zgo (cgc z5f (cgc zuc (cgc zaqg (cgc zop (cgc zug (cgc z4o cg0))))))) zaa (fun a b=>by kernel_rfl)
theorem zaon:SG ZP sg 136 @zauz:=conM (loops:=l0) (ids:=[]) good Tryz.func136 (by kernel_rfl) (by kernel_rfl) cg0 zaa (fun a b=>by kernel_rfl)
theorem zaqz:SG ZP sg 36 @zawx:=conE good Tryz.func36 (by kernel_rfl) (by kernel_rfl) (cgc zhu (cgc zuj (cgc zgo (cgc zt9 (cgc zaon cg0))))) (fun a=>by kernel_rfl)
theorem za0p:fnB ZP 45 Tryz.f45 [3]=true:=by kernel_rfl
theorem zah6:CG ZP sg @zaci:=cg0
theorem zaeq:zaf ZP sg 0 Tryz.f45 @zrz 3:=zas zxf good Tryz.func45 za0p zah6 zaa (fun a=>by kernel_rfl) (by kernel_rfl) (fun _ _=>rfl)
theorem z4f:SG ZP sg 45 @zaur:=conD (loops:=zrz) good Tryz.func45 za0p (by kernel_rfl) zah6 (all_cons zaeq zaa) (fun a=>by kernel_rfl)
theorem zaj5:fnB ZP 190 Tryz.f190 [3]=true:=by kernel_rfl
theorem zazg:CG ZP sg @zand:=cg0
theorem zas0:zaf ZP sg 0 Tryz.f190 @zy9 3:=zas z6j good Tryz.func190 zaj5 zazg zaa (fun a=>by kernel_rfl) (by kernel_rfl) (fun _ _=>rfl)
theorem z4e:SG ZP sg 190 @z9c:=conD (loops:=zy9) good Tryz.func190 zaj5 (by kernel_rfl) zazg (all_cons zas0 zaa) (fun a=>by kernel_rfl)
theorem zaj8:fnB ZP 210 Tryz.f210 [3]=true:=by kernel_rfl
theorem zaim:CG ZP sg @zac4:=(cgc z4e cg0)
theorem zafd:zaf ZP sg 0 Tryz.f210 @zsf 3:=zas zx2 good Tryz.func210 zaj8 zaim zaa (fun a=>by kernel_rfl) (by kernel_rfl) (fun _ _=>rfl)
theorem zaov:SG ZP sg 210 @zau4:=conD (loops:=zsf) good Tryz.func210 zaj8 (by kernel_rfl) zaim (all_cons zafd zaa) (fun a=>by kernel_rfl)
theorem zaj7:fnB ZP 209 Tryz.f209 [3]=true:=by kernel_rfl
theorem zaiu:CG ZP sg @zadc:=cg0
theorem zafl:zaf ZP sg 0 Tryz.f209 @zsn 3:=zas zya good Tryz.func209 zaj7 zaiu zaa (fun a=>by kernel_rfl) (by kernel_rfl) (fun _ _=>rfl)
theorem zao6:SG ZP sg 209 @zavj:=conD (loops:=zsn) good Tryz.func209 zaj7 (by kernel_rfl) zaiu (all_cons zafl zaa) (fun a=>by kernel_rfl)
theorem zuf:SG ZP sg 115 @zaat:=conE good Tryz.func115 (by kernel_rfl) (by kernel_rfl) (cgc z4f (cgc zao6 (cgc zaov cg0))) (fun a=>by kernel_rfl)
theorem zakf:fnB ZP 270 Tryz.f270 [2]=true:=by kernel_rfl
theorem zai7:CG ZP sg @zadp:=(cgc z41 cg0)
theorem zafx:zaf ZP sg 0 Tryz.f270 @zs0 2:=zas zym good Tryz.func270 zakf zai7 zaa (fun a=>by kernel_rfl) (by kernel_rfl) (fun _ _=>rfl)
theorem zaph:SG ZP sg 270 @zavs:=conD (loops:=zs0) good Tryz.func270 zakf (by kernel_rfl) zai7 (all_cons zafx zaa) (fun a=>by kernel_rfl)
theorem z4y:SG ZP sg 191 @zavy:=conE good Tryz.func191 (by kernel_rfl) (by kernel_rfl) (cgc z4p (cgc z4g (cgc zaph cg0))) (fun a=>by kernel_rfl)
theorem zarb:SG ZP sg 92 @zaw6:=conE good Tryz.func92 (by kernel_rfl) (by kernel_rfl) (cgc zuf (cgc zht (cgc zon (cgc zuc (cgc zug (cgc z4e (cgc z4y cg0))))))) (fun a=>by kernel_rfl)
theorem z5a:SG ZP sg 193 @zaal:=conE good Tryz.func193 (by kernel_rfl) (by kernel_rfl) cg0 (fun a=>by kernel_rfl)
theorem zw4:CG ZP sg @z0d:=(cgc z5a cg0)
theorem z1e:zaf ZP sg 0 Tryz.f242 @zkm 2:=zas zm9 good Tryz.func242 zxc zw4 zaa (fun a=>by kernel_rfl) (by kernel_rfl) (fun _ _=>rfl)
theorem z5o:SG ZP sg 242 @zabm:=conD (loops:=zkm) good Tryz.func242 zxc (by kernel_rfl) zw4 (all_cons z1e zaa) (fun a=>by kernel_rfl)
theorem z0h:SG ZP sg 164 @z2p:=conE good Tryz.func164 (by kernel_rfl) (by kernel_rfl) (cgc z5a (cgc z5o cg0)) (fun a=>by kernel_rfl)
theorem zuh:SG ZP sg 196 @zawi:=conS (loops:=l0) (ids:=[]) good Tryz.func196 (by kernel_rfl) (by kernel_rfl) cg0 zaa (fun a=>by kernel_rfl) (by kernel_rfl)
theorem z43:SG ZP sg 194 @zav3:=conE good Tryz.func194 (by kernel_rfl) (by kernel_rfl) (cgc z4w cg0) (fun a=>by kernel_rfl)
theorem zapd:SG ZP sg 95 @zavp:=conE good Tryz.func95 (by kernel_rfl) (by kernel_rfl) (cgc (sgi (ac:=zam3) zjl (sgi (ac:=zn7) z0h sg0)) (cgc zjj (cgc z43 (cgc (sgP zap2) (cgc zuh cg0))))) (fun a=>by kernel_rfl)
theorem zoo:SG ZP sg 94 @zav5:=conM (loops:=l0) (ids:=[]) good Tryz.func94 (by kernel_rfl) (by kernel_rfl) (cgc zib cg0) zaa (fun a b=>by kernel_rfl)
theorem zaq1:SG ZP sg 198 @zawy:=conE good Tryz.func198 (by kernel_rfl) (by kernel_rfl) (cgc zt4 (cgc zui (cgc (sgP zap5) cg0))) (fun a=>by kernel_rfl)
theorem zaqs:SG ZP sg 97 @zawt:=conM (loops:=l0) (ids:=[]) good Tryz.func97 (by kernel_rfl) (by kernel_rfl) (cgc zop (cgc zaq1 cg0)) zaa (fun a b=>by kernel_rfl)
theorem zjk:SG ZP sg 98 @zavm:=conM (loops:=l0) (ids:=[]) good Tryz.func98 (by kernel_rfl) (by kernel_rfl) cg0 zaa (fun a b=>by kernel_rfl)
theorem zom:SG ZP sg 101 @zaag:=conE good Tryz.func101 (by kernel_rfl) (by kernel_rfl) cg0 (fun a=>by kernel_rfl)
theorem zaqb:SG ZP sg 100 @zaav:=conE good Tryz.func100 (by kernel_rfl) (by kernel_rfl) (cgc zom cg0) (fun a=>by kernel_rfl)
theorem zw0:CG ZP sg @zz8:=(cgc zaqb cg0)
theorem z09:zaf ZP sg 0 Tryz.f99 @zki 2:=zas zm3 good Tryz.func99 zl6 zw0 zaa (fun a=>by kernel_rfl) (by kernel_rfl) (fun _ _=>rfl)
theorem z4t:SG ZP sg 99 @z9s:=conD (loops:=zki) good Tryz.func99 zl6 (by kernel_rfl) zw0 (all_cons z09 zaa) (fun a=>by kernel_rfl)
theorem z4l:SG ZP sg 27 @zau5:=conE good Tryz.func27 (by kernel_rfl) (by kernel_rfl) (cgc zhu (cgc zuj (cgc zjm (cgc zib (cgc zarb (cgc zgo (cgc zoo (cgc zapd (cgc zt7 (cgc zaqs (cgc zjk (cgc z4t cg0)))))))))))) (fun a=>by kernel_rfl)
theorem zarc:SG ZP sg 224 @zaw7:=conE good Tryz.func224 (by kernel_rfl) (by kernel_rfl) cg0 (fun a=>by kernel_rfl)
theorem zapr:SG ZP sg 223 @z99:=conE good Tryz.func223 (by kernel_rfl) (by kernel_rfl) (cgc zom (cgc zarc cg0)) (fun a=>by kernel_rfl)
theorem zw3:CG ZP sg @z0c:=(cgc zapr cg0)
theorem z1d:zaf ZP sg 0 Tryz.f80 @zkl 2:=zas zm8 good Tryz.func80 z0u zw3 zaa (fun a=>by kernel_rfl) (by kernel_rfl) (fun _ _=>rfl)
theorem z5i:SG ZP sg 80 @ztm:=conD (loops:=zkl) good Tryz.func80 z0u (by kernel_rfl) zw3 (all_cons z1d zaa) (fun a=>by kernel_rfl)
theorem zajs:fnB ZP 138 Tryz.f138 [9]=true:=by kernel_rfl
theorem zazo:CG ZP sg @zanw:=(cgc zgn (cgc z5i (cgc zuf (cgc z4e cg0))))
theorem zatm:zaf ZP sg 0 Tryz.f138 @zzh 9:=zas z7a good Tryz.func138 zajs zazo zaa (fun a=>by kernel_rfl) (by kernel_rfl) (fun _ _=>rfl)
theorem za0a:SG ZP sg 138 @za3l:=conD (loops:=zzh) good Tryz.func138 zajs (by kernel_rfl) zazo (all_cons zatm zaa) (fun a=>by kernel_rfl)
theorem zarg:SG ZP sg 140 @zaxa:=conE good Tryz.func140 (by kernel_rfl) (by kernel_rfl) (cgc zaje (cgc zui cg0)) (fun a=>by kernel_rfl)
theorem zajt:fnB ZP 141 Tryz.f141 [1]=true:=by kernel_rfl
theorem zai6:CG ZP sg @zado:=(cgc zt9 (cgc zug cg0))
theorem zafw:zaf ZP sg 1 Tryz.f141 @zsz 1:=zas zyl good Tryz.func141 zajt zai6 zaa (fun a=>by kernel_rfl) (by kernel_rfl) (fun _ _=>rfl)
theorem zapg:SG ZP sg 141 @zavr:=conM (loops:=zsz) good Tryz.func141 zajt (by kernel_rfl) zai6 (all_cons zafw zaa) (fun a b=>by kernel_rfl)
theorem zaq3:SG ZP sg 40 @zaw0:=conE good Tryz.func40 (by kernel_rfl) (by kernel_rfl) (cgc zhu (cgc zjm (cgc zjk (cgc zht (cgc za0a (cgc zop (cgc zarg (cgc zapg cg0)))))))) (fun a=>by kernel_rfl)
theorem z49:SG ZP sg 116 @zaak:=conE good Tryz.func116 (by kernel_rfl) (by kernel_rfl) (cgc zom cg0) (fun a=>by kernel_rfl)
theorem zw1:CG ZP sg @zz9:=(cgc z49 cg0)
theorem z1a:zaf ZP sg 0 Tryz.f99 @zkj 2:=zas zm4 good Tryz.func99 zl6 zw1 zaa (fun a=>by kernel_rfl) (by kernel_rfl) (fun _ _=>rfl)
theorem z4u:SG ZP sg 99 @z9t:=conD (loops:=zkj) good Tryz.func99 zl6 (by kernel_rfl) zw1 (all_cons z1a zaa) (fun a=>by kernel_rfl)
theorem z0i:SG ZP sg 117 @z2q:=conE good Tryz.func117 (by kernel_rfl) (by kernel_rfl) (cgc z4u (cgc z49 cg0)) (fun a=>by kernel_rfl)
theorem zara:SG ZP sg 119 @zaw5:=conE good Tryz.func119 (by kernel_rfl) (by kernel_rfl) (cgc z4y cg0) (fun a=>by kernel_rfl)
theorem z5g:SG ZP sg 212 @zawm:=conE good Tryz.func212 (by kernel_rfl) (by kernel_rfl) (cgc zuh cg0) (fun a=>by kernel_rfl)
theorem zar6:SG ZP sg 121 @zaxu:=conE good Tryz.func121 (by kernel_rfl) (by kernel_rfl) (cgc zjl (cgc zjj (cgc z43 (cgc z5g cg0)))) (fun a=>by kernel_rfl)
theorem zao3:SG ZP sg 31 @zavh:=conE good Tryz.func31 (by kernel_rfl) (by kernel_rfl) (cgc zt8 (cgc zgn (cgc zhu (cgc zjm (cgc zoo (cgc zjk (cgc zuf (cgc z0i (cgc zht (cgc zara (cgc zon (cgc zar6 cg0)))))))))))) (fun a=>by kernel_rfl)
theorem zajp:fnB ZP 129 Tryz.f129 [2]=true:=by kernel_rfl
theorem zah9:CG ZP sg @zacl:=(cgc zt8 (cgc zom cg0))
theorem zaet:zaf ZP sg 0 Tryz.f129 @zr2 2:=zas zxi good Tryz.func129 zajp zah9 zaa (fun a=>by kernel_rfl) (by kernel_rfl) (fun _ _=>rfl)
theorem zaof:SG ZP sg 129 @zauu:=conD (loops:=zr2) good Tryz.func129 zajp (by kernel_rfl) zah9 (all_cons zaet zaa) (fun a=>by kernel_rfl)
theorem zar4:SG ZP sg 131 @zaxs:=conE good Tryz.func131 (by kernel_rfl) (by kernel_rfl) (cgc zjl (cgc zjj (cgc z5g (cgc z5c cg0)))) (fun a=>by kernel_rfl)
theorem zar5:SG ZP sg 33 @zaxt:=conE good Tryz.func33 (by kernel_rfl) (by kernel_rfl) (cgc zhu (cgc zoo (cgc zjk (cgc zht (cgc zuc (cgc zaof (cgc z5m (cgc zar4 cg0)))))))) (fun a=>by kernel_rfl)
theorem zarw:SG ZP sg 234 @zaxk:=conE good Tryz.func234 (by kernel_rfl) (by kernel_rfl) (cgc zuh (cgc (sgP zap4) cg0)) (fun a=>by kernel_rfl)
theorem zarh:SG ZP sg 154 @zaxc:=conE good Tryz.func154 (by kernel_rfl) (by kernel_rfl) (cgc zjl (cgc zjj (cgc zarw cg0))) (fun a=>by kernel_rfl)
theorem zaq9:SG ZP sg 309 @zabd:=conE good Tryz.func309 (by kernel_rfl) (by kernel_rfl) (cgc zue cg0) (fun a=>by kernel_rfl)
theorem z5w:fnB ZP 281 Tryz.f281 [7,13]=true:=by kernel_rfl
theorem z38:CG ZP sg @zacw:=(cgc z4m (cgc zaq9 (cgc zue cg0)))
theorem zae5:zaf ZP sg 0 Tryz.f281 @zke 7:=zas zxu good Tryz.func281 z5w z38 zaa (fun a=>by kernel_rfl) (by kernel_rfl) (fun _ _=>rfl)
theorem z7n:zaf ZP sg 0 Tryz.f281 @zke 13:=zas zrr good Tryz.func281 z5w z38 zaa (fun a=>by kernel_rfl) (by kernel_rfl) (fun _ _=>rfl)
theorem zaop:SG ZP sg 281 @zau1:=conD (loops:=zke) good Tryz.func281 z5w (by kernel_rfl) z38 (all_cons zae5 (all_cons z7n zaa)) (fun a=>by kernel_rfl)
theorem zasa:SG ZP sg 203 @zaxy:=conE good Tryz.func203 (by kernel_rfl) (by kernel_rfl) (cgc zajf (cgc z5l (cgc zaop cg0))) (fun a=>by kernel_rfl)
theorem zaqd:SG ZP sg 226 @zawg:=conE good Tryz.func226 (by kernel_rfl) (by kernel_rfl) (cgc z4x cg0) (fun a=>by kernel_rfl)
theorem zarx:SG ZP sg 149 @zaxl:=conM (loops:=l0) (ids:=[]) good Tryz.func149 (by kernel_rfl) (by kernel_rfl) (cgc zib (cgc zaqd cg0)) zaa (fun a b=>by kernel_rfl)
theorem zap7:SG ZP sg 283 @zaaq:=conE good Tryz.func283 (by kernel_rfl) (by kernel_rfl) cg0 (fun a=>by kernel_rfl)
theorem zaki:fnB ZP 282 Tryz.f282 [2]=true:=by kernel_rfl
theorem zaib:CG ZP sg @zacn:=(cgc zap7 cg0)
theorem zaev:zaf ZP sg 0 Tryz.f282 @zr4 2:=zas zxk good Tryz.func282 zaki zaib zaa (fun a=>by kernel_rfl) (by kernel_rfl) (fun _ _=>rfl)
theorem zaog:SG ZP sg 282 @zauv:=conD (loops:=zr4) good Tryz.func282 zaki (by kernel_rfl) zaib (all_cons zaev zaa) (fun a=>by kernel_rfl)
theorem zao1:SG ZP sg 204 @zavf:=conE good Tryz.func204 (by kernel_rfl) (by kernel_rfl) (cgc zaog cg0) (fun a=>by kernel_rfl)
theorem zarv:SG ZP sg 108 @zaxj:=conM (loops:=l0) (ids:=[]) good Tryz.func108 (by kernel_rfl) (by kernel_rfl) (cgc zgo (cgc zoo (cgc zht (cgc zon (cgc zarx (cgc zarh (cgc zasa (cgc zao1 cg0)))))))) zaa (fun a b=>by kernel_rfl)
theorem zarr:SG ZP sg 29 @zaxi:=conE good Tryz.func29 (by kernel_rfl) (by kernel_rfl) (cgc zhu (cgc zuj (cgc zib (cgc zgo (cgc zt7 (cgc zjk (cgc zarv (cgc z5f (cgc zt9 cg0))))))))) (fun a=>by kernel_rfl)
theorem zarp:SG ZP sg 15 @zaxh:=conE good Tryz.func15 (by kernel_rfl) (by kernel_rfl) (cgc z5n (cgc z4l (cgc zarr (cgc zao3 (cgc zar5 (cgc zaqz (cgc zaq3 (cgc z4f (cgc zaqy cg0))))))))) (fun a=>by kernel_rfl)
theorem z5y:fnB ZP 293 Tryz.f293 [3,6]=true:=by kernel_rfl
theorem zan2:CG ZP sg @zane:=cg0
theorem z7i:zaf ZP sg 0 Tryz.f293 @zpn 6:=zas z6l good Tryz.func293 z5y zan2 zaa (fun a=>by kernel_rfl) (by kernel_rfl) (fun _ _=>rfl)
theorem zas1:zaf ZP sg 0 Tryz.f293 @zpn 3:=zas z6k good Tryz.func293 z5y zan2 (all_cons z7i zaa) (fun a=>by kernel_rfl) (by kernel_rfl) (fun _ _=>rfl)
theorem zazs:SG ZP sg 293 @zamn:=conD (loops:=zpn) good Tryz.func293 z5y (by kernel_rfl) zan2 (all_cons zas1 (all_cons z7i zaa)) (fun a=>by kernel_rfl)
theorem zajq:fnB ZP 132 Tryz.f132 [2]=true:=by kernel_rfl
theorem zain:CG ZP sg @zac5:=cg0
theorem zafe:zaf ZP sg 0 Tryz.f132 @zsg 2:=zas zx3 good Tryz.func132 zajq zain zaa (fun a=>by kernel_rfl) (by kernel_rfl) (fun _ _=>rfl)
theorem zt5:SG ZP sg 132 @zv5:=conD (loops:=zsg) good Tryz.func132 zajq (by kernel_rfl) zain (all_cons zafe zaa) (fun a=>by kernel_rfl)
theorem zakd:fnB ZP 235 Tryz.f235 [4]=true:=by kernel_rfl
theorem zajb:CG ZP sg @zadt:=(cgc zt5 (cgc zazs cg0))
theorem zaf0:zaf ZP sg 0 Tryz.f235 @zs5 4:=zas zyp good Tryz.func235 zakd zajb zaa (fun a=>by kernel_rfl) (by kernel_rfl) (fun _ _=>rfl)
theorem zapl:SG ZP sg 235 @zavw:=conD (loops:=zs5) good Tryz.func235 zakd (by kernel_rfl) zajb (all_cons zaf0 zaa) (fun a=>by kernel_rfl)
theorem zari:SG ZP sg 157 @zaxd:=conE good Tryz.func157 (by kernel_rfl) (by kernel_rfl) (cgc zjn (cgc zapl cg0)) (fun a=>by kernel_rfl)
theorem zaj9:fnB ZP 214 Tryz.f214 [3]=true:=by kernel_rfl
theorem zaiq:CG ZP sg @zac8:=cg0
theorem zafh:zaf ZP sg 0 Tryz.f214 @zsj 3:=zas zx6 good Tryz.func214 zaj9 zaiq zaa (fun a=>by kernel_rfl) (by kernel_rfl) (fun _ _=>rfl)
theorem zaoy:SG ZP sg 214 @zava:=conD (loops:=zsj) good Tryz.func214 zaj9 (by kernel_rfl) zaiq (all_cons zafh zaa) (fun a=>by kernel_rfl)
theorem zaka:fnB ZP 215 Tryz.f215 [3]=true:=by kernel_rfl
theorem zajc:CG ZP sg @zadu:=cg0
theorem zaf1:zaf ZP sg 0 Tryz.f215 @zs6 3:=zas zyq good Tryz.func215 zaka zajc zaa (fun a=>by kernel_rfl) (by kernel_rfl) (fun _ _=>rfl)
theorem zapm:SG ZP sg 215 @zavx:=conD (loops:=zs6) good Tryz.func215 zaka (by kernel_rfl) zajc (all_cons zaf1 zaa) (fun a=>by kernel_rfl)
theorem zar3:SG ZP sg 213 @zaxr:=conE good Tryz.func213 (by kernel_rfl) (by kernel_rfl) cg0 (fun a=>by kernel_rfl)
theorem zar2:SG ZP sg 123 @zaxq:=conE good Tryz.func123 (by kernel_rfl) (by kernel_rfl) (cgc zhs (cgc zar3 (cgc zaoy (cgc zapm cg0)))) (fun a=>by kernel_rfl)
theorem zart:SG ZP sg 313 @zabk:=conE good Tryz.func313 (by kernel_rfl) (by kernel_rfl) cg0 (fun a=>by kernel_rfl)
theorem zare:SG ZP sg 314 @zabe:=conE good Tryz.func314 (by kernel_rfl) (by kernel_rfl) cg0 (fun a=>by kernel_rfl)
theorem zakk:fnB ZP 288 Tryz.f288 [3]=true:=by kernel_rfl
theorem zai9:CG ZP sg @zadr:=(cgc zart (cgc zare cg0))
theorem zafz:zaf ZP sg 0 Tryz.f288 @zs3 3:=zas zyo good Tryz.func288 zakk zai9 zaa (fun a=>by kernel_rfl) (by kernel_rfl) (fun _ _=>rfl)
theorem zapj:SG ZP sg 288 @zavu:=conD (loops:=zs3) good Tryz.func288 zakk (by kernel_rfl) zai9 (all_cons zafz zaa) (fun a=>by kernel_rfl)
theorem zarj:SG ZP sg 216 @zaxe:=conE good Tryz.func216 (by kernel_rfl) (by kernel_rfl) (cgc zapj cg0) (fun a=>by kernel_rfl)
theorem zasb:SG ZP sg 124 @zaxz:=conE good Tryz.func124 (by kernel_rfl) (by kernel_rfl) (cgc zhs (cgc zarj cg0)) (fun a=>by kernel_rfl)
theorem zaju:fnB ZP 143 Tryz.f143 [3]=true:=by kernel_rfl
theorem zais:CG ZP sg @zada:=cg0
theorem zafj:zaf ZP sg 0 Tryz.f143 @zsl 3:=zas zx8 good Tryz.func143 zaju zais zaa (fun a=>by kernel_rfl) (by kernel_rfl) (fun _ _=>rfl)
theorem zao0:SG ZP sg 143 @zavc:=conD (loops:=zsl) good Tryz.func143 zaju (by kernel_rfl) zais (all_cons zafj zaa) (fun a=>by kernel_rfl)
theorem zaz6:SG ZP sg 126 @za3h:=conE good Tryz.func126 (by kernel_rfl) (by kernel_rfl) cg0 (fun a=>by kernel_rfl)
theorem zarl:SG ZP sg 338 @zaxg:=conE good Tryz.func338 (by kernel_rfl) (by kernel_rfl) cg0 (fun a=>by kernel_rfl)
theorem zaro:SG ZP sg 315 @zabh:=conE good Tryz.func315 (by kernel_rfl) (by kernel_rfl) (cgc zarl cg0) (fun a=>by kernel_rfl)
theorem z5x:fnB ZP 290 Tryz.f290 [6,12]=true:=by kernel_rfl
theorem zan8:CG ZP sg @zan1:=(cgc zaro cg0)
theorem zatr:zaf ZP sg 0 Tryz.f290 @zpt 6:=zas z7g good Tryz.func290 z5x zan8 zaa (fun a=>by kernel_rfl) (by kernel_rfl) (fun _ _=>rfl)
theorem zagf:zaf ZP sg 0 Tryz.f290 @zpt 12:=zas zy5 good Tryz.func290 z5x zan8 zaa (fun a=>by kernel_rfl) (by kernel_rfl) (fun _ _=>rfl)
theorem zajg:SG ZP sg 290 @zabo:=conD (loops:=zpt) good Tryz.func290 z5x (by kernel_rfl) zan8 (all_cons zatr (all_cons zagf zaa)) (fun a=>by kernel_rfl)
theorem zakc:fnB ZP 220 Tryz.f220 [2]=true:=by kernel_rfl
theorem zair:CG ZP sg @zac9:=(cgc zajg cg0)
theorem zafi:zaf ZP sg 0 Tryz.f220 @zsk 2:=zas zx7 good Tryz.func220 zakc zair zaa (fun a=>by kernel_rfl) (by kernel_rfl) (fun _ _=>rfl)
theorem zaoz:SG ZP sg 220 @zavb:=conD (loops:=zsk) good Tryz.func220 zakc (by kernel_rfl) zair (all_cons zafi zaa) (fun a=>by kernel_rfl)
theorem zakg:fnB ZP 274 Tryz.f274 [2]=true:=by kernel_rfl
theorem zai8:CG ZP sg @zadq:=(cgc zajg cg0)
theorem zafy:zaf ZP sg 0 Tryz.f274 @zs1 2:=zas zyn good Tryz.func274 zakg zai8 zaa (fun a=>by kernel_rfl) (by kernel_rfl) (fun _ _=>rfl)
theorem zapi:SG ZP sg 274 @zavt:=conD (loops:=zs1) good Tryz.func274 zakg (by kernel_rfl) zai8 (all_cons zafy zaa) (fun a=>by kernel_rfl)
theorem zark:SG ZP sg 199 @zaxf:=conE good Tryz.func199 (by kernel_rfl) (by kernel_rfl) (cgc zaoz (cgc z4n (cgc zapi cg0))) (fun a=>by kernel_rfl)
theorem zarm:SG ZP sg 102 @zabf:=conE good Tryz.func102 (by kernel_rfl) (by kernel_rfl) (cgc zhs (cgc zjn (cgc zar2 (cgc zasb (cgc zaz6 (cgc zt5 (cgc zao0 (cgc zari (cgc zark cg0))))))))) (fun a=>by kernel_rfl)
theorem zajl:fnB ZP 103 Tryz.f103 [10]=true:=by kernel_rfl
theorem zai3:CG ZP sg @zadl:=(cgc zjn (cgc z44 cg0))
theorem z7p:zaf ZP sg 0 Tryz.f103 @zsw 10:=zas zrt good Tryz.func103 zajl zai3 zaa (fun a=>by kernel_rfl) (by kernel_rfl) (fun _ _=>rfl)
theorem zapc:SG ZP sg 103 @z91:=conD (loops:=zsw) good Tryz.func103 zajl (by kernel_rfl) zai3 (all_cons z7p zaa) (fun a=>by kernel_rfl)
theorem zarn:SG ZP sg 202 @zabg:=conE good Tryz.func202 (by kernel_rfl) (by kernel_rfl) (cgc z4j cg0) (fun a=>by kernel_rfl)
theorem zajm:fnB ZP 104 Tryz.f104 [4]=true:=by kernel_rfl
theorem zai4:CG ZP sg @zadm:=(cgc z4h (cgc zarn cg0))
theorem zafu:zaf ZP sg 0 Tryz.f104 @zsx 4:=zas zyj good Tryz.func104 zajm zai4 zaa (fun a=>by kernel_rfl) (by kernel_rfl) (fun _ _=>rfl)
theorem zape:SG ZP sg 104 @z92:=conD (loops:=zsx) good Tryz.func104 zajm (by kernel_rfl) zai4 (all_cons zafu zaa) (fun a=>by kernel_rfl)
theorem zars:SG ZP sg 106 @zabj:=conE good Tryz.func106 (by kernel_rfl) (by kernel_rfl) cg0 (fun a=>by kernel_rfl)
theorem zajo:fnB ZP 107 Tryz.f107 [6]=true:=by kernel_rfl
theorem zai2:CG ZP sg @zadk:=(cgc zt5 cg0)
theorem zaft:zaf ZP sg 0 Tryz.f107 @zsv 6:=zas zyi good Tryz.func107 zajo zai2 zaa (fun a=>by kernel_rfl) (by kernel_rfl) (fun _ _=>rfl)
theorem zapb:SG ZP sg 107 @z90:=conD (loops:=zsv) good Tryz.func107 zajo (by kernel_rfl) zai2 (all_cons zaft zaa) (fun a=>by kernel_rfl)
theorem za0l:fnB ZP 28 Tryz.f28 [14]=true:=by kernel_rfl
theorem zaja:CG ZP sg @zads:=(cgc zjn (cgc zarm (cgc zapc (cgc zape (cgc z4i (cgc zars (cgc zapb cg0)))))))
theorem z7q:zaf ZP sg 0 Tryz.f28 @zs4 14:=zas zru good Tryz.func28 za0l zaja zaa (fun a=>by kernel_rfl) (by kernel_rfl) (fun _ _=>rfl)
theorem zapk:SG ZP sg 28 @zavv:=conD (loops:=zs4) good Tryz.func28 za0l (by kernel_rfl) zaja (all_cons z7q zaa) (fun a=>by kernel_rfl)
theorem zasi:fnB ZP 61 Tryz.f61 [2,7]=true:=by kernel_rfl
theorem zan6:CG ZP sg @zany:=cg0
theorem z7v:zaf ZP sg 0 Tryz.f61 @zpr 7:=zas z7d good Tryz.func61 zasi zan6 zaa (fun a=>by kernel_rfl) (by kernel_rfl) (fun _ _=>rfl)
theorem zato:zaf ZP sg 0 Tryz.f61 @zpr 2:=zas z7c good Tryz.func61 zasi zan6 (all_cons z7v zaa) (fun a=>by kernel_rfl) (by kernel_rfl) (fun _ _=>rfl)
theorem za0b:SG ZP sg 61 @zamw:=conD (loops:=zpr) good Tryz.func61 zasi (by kernel_rfl) zan6 (all_cons zato (all_cons z7v zaa)) (fun a=>by kernel_rfl)
theorem zq8:fnB ZP 16 Tryz.f16 [6,11,16,21,26,31,36]=true:=by kernel_rfl
theorem zqq:CG ZP sg @zanh:=(cgc za0b cg0)
theorem zas5:zaf ZP sg 0 Tryz.f16 @zen 6:=zas z6p good Tryz.func16 zq8 zqq zaa (fun a=>by kernel_rfl) (by kernel_rfl) (fun _ _=>rfl)
theorem zaf2:zaf ZP sg 0 Tryz.f16 @zen 11:=zas zyr good Tryz.func16 zq8 zqq zaa (fun a=>by kernel_rfl) (by kernel_rfl) (fun _ _=>rfl)
theorem zaf3:zaf ZP sg 0 Tryz.f16 @zen 16:=zas zys good Tryz.func16 zq8 zqq zaa (fun a=>by kernel_rfl) (by kernel_rfl) (fun _ _=>rfl)
theorem zaf4:zaf ZP sg 0 Tryz.f16 @zen 21:=zas zyt good Tryz.func16 zq8 zqq zaa (fun a=>by kernel_rfl) (by kernel_rfl) (fun _ _=>rfl)
theorem zaf5:zaf ZP sg 0 Tryz.f16 @zen 26:=zas zyu good Tryz.func16 zq8 zqq zaa (fun a=>by kernel_rfl) (by kernel_rfl) (fun _ _=>rfl)
theorem zaf6:zaf ZP sg 0 Tryz.f16 @zen 31:=zas zyv good Tryz.func16 zq8 zqq zaa (fun a=>by kernel_rfl) (by kernel_rfl) (fun _ _=>rfl)
theorem zaf7:zaf ZP sg 0 Tryz.f16 @zen 36:=zas zyw good Tryz.func16 zq8 zqq zaa (fun a=>by kernel_rfl) (by kernel_rfl) (fun _ _=>rfl)
theorem zazv:SG ZP sg 16 @za3b:=conD (loops:=zen) good Tryz.func16 zq8 (by kernel_rfl) zqq (all_cons zas5 (all_cons zaf2 (all_cons zaf3 (all_cons zaf4 (all_cons zaf5 (all_cons zaf6 (all_cons zaf7 zaa))))))) (fun a=>by kernel_rfl)
theorem zaqf:SG ZP sg 5 @zawk:=conE good Tryz.func5 (by kernel_rfl) (by kernel_rfl) (cgc zarp (cgc zazv (cgc zar9 (cgc z4l (cgc zapk cg0))))) (fun a=>by kernel_rfl)
end Go.Proofs.YtdahfgialanmpaaGreatDoor
namespace Go.Proofs.YtdahfgialanmpaaGreatDoor
open Ev
open Go (IntKind)
section
variable {α β σ X:Type}
theorem z03 {step:α→Option (α⊕β)}:∀{n m:Nat} {a:α} {b:β},n≤m→za8 step n a=some b→za8 step m a=some b:=by
 intro n
 induction n with
 |zero=>intro m a b _ h;cases h
 |succ n ih=>
  intro m a b hm h
  obtain ⟨m,rfl⟩:∃k,m=k+1:=⟨m-1,by omega⟩
  simp only[za8]at h ⊢
  cases h1:step a with
  |none=>rw[h1]at h;cases h
  |some x=>
   rw[h1]at h
   cases x with
   |inl a'=>exact ih (by omega) h
   |inr b'=>exact h
theorem zba {step:α→Option (α⊕β)} {a:α} {b:β} (n:Nat) (hn:n≤FUEL) (h:za8 step n a=some b):zad step a=some b:=z03 hn h
theorem zabz {step:α→Option (α⊕β)} (Inv:α→Prop) (μ:α→Nat) (f:α→β)
 (h:∀a,Inv a→(∃a',step a=some (.inl a')∧Inv a'∧μ a'<μ a∧f a'=f a)∨step a=some (.inr (f a))) {a:α} (ha:Inv a) (hm:μ a<FUEL):zad step a=some (f a):=by
 have key:∀n a,Inv a→μ a<n→za8 step n a=some (f a):=by
  intro n
  induction n with
  |zero=>intro a _ h;omega
  |succ n ih=>
   intro a hi hn
   simp only[za8]
   rcases h a hi with ⟨a',h1,h2,h3,h4⟩|h1
   ·rw[h1];simp only;rw[ih a' h2 (by omega),h4]
   ·rw[h1]
 exact key FUEL a ha hm
def zcz (f:Nat→X→σ→σ⊕β) (fin:σ→β):Nat→List X→σ→β
 |_,[],s=>fin s
 |i,x::l,s=>match f i x s with
  |.inl s'=>zcz f fin (i+1) l s'
  |.inr b=>b
theorem zbc {step:α→Option (α⊕β)} (Inv:Nat→σ→Prop) (enc:Nat→σ→α) (l:List X) (f:Nat→X→σ→σ⊕β) (fin:σ→β) (hl:l.length<FUEL)
 (h0:∀s,Inv l.length s→step (enc l.length s)=some (.inr (fin s)))
 (h1:∀i x s,l[i]?=some x→Inv i s→(step (enc i s)=some (match f i x s with | .inl s'=>.inl (enc (i+1) s') | .inr b=>.inr b))∧∀s',f i x s=.inl s'→Inv (i+1) s')
 (s:σ) (hs:Inv 0 s):zad step (enc 0 s)=some (zcz f fin 0 l s):=by
 have key:∀k i s,i+k=l.length→Inv i s→za8 step (k+1) (enc i s)=some (zcz f fin i (l.drop i) s):=by
  intro k
  induction k with
  |zero=>
   intro i s hi hs
   have:i=l.length:=by omega
   subst this
   rw[List.drop_length]
   simp only[za8,h0 s hs,zcz]
  |succ k ih=>
   intro i s hi hs
   have hlt:i<l.length:=by omega
   obtain ⟨e1,e2⟩:=h1 i l[i] s (List.getElem?_eq_getElem hlt) hs
   rw[List.drop_eq_getElem_cons hlt]
   rw[za8,e1]
   simp only[zcz]
   cases hf:f i l[i] s with
   |inl s'=>simp only;exact ih (i+1) s' (by omega) (e2 s' hf)
   |inr b=>rfl
 have:=key l.length 0 s (by omega) hs
 exact zba (l.length+1) (by omega) (by simpa using this)
theorem zcs {step:α→Option (α⊕β)} (enc:Nat→σ→α) (l:List X) (f:Nat→X→σ→σ⊕β) (fin:σ→β) (hl:l.length<FUEL)
 (h0:∀s,step (enc l.length s)=some (.inr (fin s)))
 (h1:∀i x s,l[i]?=some x→step (enc i s)=some (match f i x s with | .inl s'=>.inl (enc (i+1) s') | .inr b=>.inr b))
 (s:σ):zad step (enc 0 s)=some (zcz f fin 0 l s):=
 zbc (fun _ _=>True) enc l f fin hl (fun s _=>h0 s) (fun i x s hx _=>⟨h1 i x s hx,fun _ _=>trivial⟩) s trivial
def fIdx (p:X→Bool) (l:List X):Int:=match l.findIdx? p with|some i=>(i:Int)|none=>-1
def zb4 (f:Nat→X→Int):Nat→List X→Int
 |_,[]=>0
 |i,x::l=>if f i x==0 then zb4 f (i+1) l else f i x
theorem z88 {f:Nat→X→Int} {d:β} {g:Int→β}:∀{l:List X} {i:Nat},zcz (σ:=Unit) (fun i x _=>if f i x==0 then .inl () else .inr (g (f i x))) (fun _=>d) i l ()=if zb4 f i l==0 then d else g (zb4 f i l):=by
 intro l
 induction l with
 |nil=>intros;rfl
 |cons x l ih=>
  intro i
  simp only[zcz,zb4]
  by_cases h:(f i x==0)=true
  ·simp only[h,if_true];exact ih
  ·have h2:¬f i x=0:=fun e=>h (by simp[e])
   simp[h2]
theorem z0t {f:Nat→X→Int}:∀{l:List X} {i:Nat},zb4 f i l=0↔∀k x,l[k]?=some x→f (i+k) x=0:=by
 intro l
 induction l with
 |nil=>intro i;simp[zb4]
 |cons y l ih=>
  intro i
  simp only[zb4]
  constructor
  ·intro h k x hk
   split at h
   ·rename_i h1
    cases k with
    |zero=>simp at hk;subst hk;simpa using h1
    |succ k=>have:=(ih (i:=i+1)).1 h k x (by simpa using hk);rwa [show i+(k+1)=i+1+k by omega]
   ·rename_i h1;exfalso;apply h1;simp[h]
  ·intro h
   have h0:=h 0 y rfl
   simp only[Nat.add_zero]at h0
   rw[h0]
   simp only[beq_self_eq_true,if_true]
   exact ih.2 (fun k x hk=>by have:=h (k+1) x (by simpa using hk);rwa [show i+(k+1)=i+1+k by omega]at this)
theorem zcu {f:X→σ→σ} {fin:σ→β}:∀{l:List X} {i:Nat} {s:σ},zcz (fun _ x s=>.inl (f x s)) fin i l s=fin (l.foldl (fun s x=>f x s) s):=by
 intro l
 induction l with
 |nil=>intros;rfl
 |cons x l ih=>intro i s;simp only[zcz,List.foldl_cons];exact ih
end
section
variable {α β σ X:Type} {step:α→Option (α⊕β)}
def zic (a:α) (g:Int→β) (e:Int):Option (α⊕β):=if e==0 then some (.inl a) else some (.inr (g e))
theorem zdb (a:α) (g:Int→β) (b:Bool) (x y:Int):zic a g (bif b then x else y)=bif b then zic a g x else zic a g y:=by cases b<;>rfl
theorem zd3 (enc:Nat→α) (l:List X) (f:Nat→X→Int) (d:β) (g:Int→β) (hl:l.length<1000000000) (h0:step (enc l.length)=some (.inr d))
 (h1:∀i x,l[i]?=some x→step (enc i)=zic (enc (i+1)) g (f i x)):zad step (enc 0)=some (if zb4 f 0 l==0 then d else g (zb4 f 0 l)):=by
 have h:=zcs (step:=step) (fun i (_:Unit)=>enc i) l (fun i x _=>if f i x==0 then .inl () else .inr (g (f i x))) (fun _=>d) (by show l.length<18446744073709551616;omega) (fun _=>h0)
  (fun i x _ hx=>by rw[h1 i x hx];unfold zic;split<;>rfl) ()
 rw[h,z88]
def zeg (p:X→Bool) (g:Nat→X→β) (d:β):Nat→List X→β
 |_,[]=>d
 |i,x::l=>bif p x then g i x else zeg p g d (i+1) l
theorem zbm (enc:Nat→α) (l:List X) (p:X→Bool) (g:Nat→X→β) (d:β) (hl:l.length<1000000000) (h0:step (enc l.length)=some (.inr d))
 (h1:∀i x,l[i]?=some x→step (enc i)=bif p x then some (.inr (g i x)) else some (.inl (enc (i+1)))):zad step (enc 0)=some (zeg p g d 0 l):=by
 have h:=zcs (step:=step) (fun i (_:Unit)=>enc i) l (fun i x _=>if p x then .inr (g i x) else .inl ()) (fun _=>d) (by show l.length<18446744073709551616;omega) (fun _=>h0)
  (fun i x _ hx=>by rw[h1 i x hx];cases p x<;>rfl) ()
 rw[h]
 have key:∀(l:List X) (i:Nat),zcz (σ:=Unit) (fun i x _=>if p x then .inr (g i x) else .inl ()) (fun _=>d) i l ()=zeg p g d i l:=by
  intro l
  induction l with
  |nil=>intro i;rfl
  |cons x l ih=>
   intro i
   simp only[zcz,zeg]
   cases p x with
   |true=>rfl
   |false=>exact ih _
 rw[key]
theorem zmx {p:X→Bool} {g:X→β} {d:β}:∀{l:List X} {i:Nat},zeg p (fun _ x=>g x) d i l=(match l.find? p with|some x=>g x|none=>d):=by
 intro l
 induction l with
 |nil=>intros;rfl
 |cons x l ih=>intro i;simp only[zeg,List.find?_cons];cases p x with|true=>rfl|false=>exact ih
theorem z51 {p:X→Bool}:∀{l:List X} {i:Nat},zeg p (fun i _=>(i:Int)) (-1) i l=(match l.findIdx? p with|some k=>((i+k:Nat):Int)|none=>-1):=by
 intro l
 induction l with
 |nil=>intros;rfl
 |cons x l ih=>
  intro i
  simp only[zeg,List.findIdx?_cons]
  cases p x with
  |true=>rfl
  |false=>
   simp only[Bool.false_eq_true,if_false,cond_false]
   rw[ih]
   cases l.findIdx? p with
   |none=>rfl
   |some k=>simp only[Option.map_some];rw[show i+1+k=i+(k+1) by omega]
theorem zdc {p:X→Bool} {l:List X}:zeg p (fun i _=>(i:Int)) (-1) 0 l=fIdx p l:=by
 rw[z51];unfold fIdx;simp
theorem zce {γ:Type} {p:X→Bool} {g:Nat→X→β} {d:β} (f:β→γ):∀{l:List X} {i:Nat},f (zeg p g d i l)=zeg p (fun i x=>f (g i x)) (f d) i l:=by
 intro l
 induction l with
 |nil=>intros;rfl
 |cons x l ih=>intro i;simp only[zeg];cases p x with|true=>rfl|false=>exact ih
def zc2 (p:Nat→X→Bool):Nat→List X→Bool
 |_,[]=>true
 |i,x::l=>p i x&&zc2 p (i+1) l
theorem zav (enc:Nat→α) (l:List X) (p:Nat→X→Bool) (b d:β) (hl:l.length<1000000000) (h0:step (enc l.length)=some (.inr d))
 (h1:∀i x,l[i]?=some x→step (enc i)=bif p i x then some (.inl (enc (i+1))) else some (.inr b)):zad step (enc 0)=some (bif zc2 p 0 l then d else b):=by
 have h:=zcs (step:=step) (fun i (_:Unit)=>enc i) l (fun i x _=>if p i x then .inl () else .inr b) (fun _=>d) (by show l.length<18446744073709551616;omega) (fun _=>h0)
  (fun i x _ hx=>by rw[h1 i x hx];cases p i x<;>rfl) ()
 rw[h]
 have key:∀(l:List X) (i:Nat),zcz (σ:=Unit) (fun i x _=>if p i x then .inl () else .inr b) (fun _=>d) i l ()=bif zc2 p i l then d else b:=by
  intro l
  induction l with
  |nil=>intro i;rfl
  |cons x l ih=>
   intro i
   simp only[zcz,zc2]
   cases p i x with
   |true=>exact ih _
   |false=>rfl
 rw[key]
theorem zaz {p:X→Bool}:∀{l:List X} {i:Nat},zc2 (fun _=>p) i l=l.all p:=by
 intro l
 induction l with
 |nil=>intros;rfl
 |cons x l ih=>intro i;simp only[zc2,List.all_cons];rw[ih]
theorem z3g {p:Nat→X→Bool}:∀{l:List X} {i:Nat},zc2 p i l=true↔∀k x,l[k]?=some x→p (i+k) x=true:=by
 intro l
 induction l with
 |nil=>intro i;simp[zc2]
 |cons y l ih=>
  intro i
  simp only[zc2,Bool.and_eq_true]
  rw[ih]
  constructor
  ·rintro ⟨h0,h⟩ k x hk
   cases k with
   |zero=>simp at hk;subst hk;exact h0
   |succ k=>have:=h k x (by simpa using hk);rwa [show i+(k+1)=i+1+k by omega]
  ·intro h
   exact ⟨h 0 y rfl,fun k x hk=>by have:=h (k+1) x (by simpa using hk);rwa [show i+(k+1)=i+1+k by omega]at this⟩
theorem zlw (enc:Nat→σ→α) (l:List X) (f:X→σ→σ) (fin:σ→β) (hl:l.length<1000000000) (h0:∀s,step (enc l.length s)=some (.inr (fin s)))
 (h1:∀i x s,l[i]?=some x→step (enc i s)=some (.inl (enc (i+1) (f x s)))) (s:σ):zad step (enc 0 s)=some (fin (l.foldl (fun s x=>f x s) s)):=by
 have h:=zcs (step:=step) enc l (fun i x s=>.inl (f x s)) fin (by show l.length<18446744073709551616;omega) h0 (fun i x s hx=>by rw[h1 i x s hx]) s
 rw[h,zcu]
end
def zb5 {X:Type} (l:List X) (i:Nat) (f:X→Bool):Bool:=match i with
 |0=>false
 |j+1=>match l[j]? with|some y=>f y|none=>false
theorem zc1 {n:Int} (h1 : -9223372036854775808≤n) (h2:n≤9223372036854775807):wr .i64 n=n:=by
 unfold wr;rw[IntKind.wrap_i64];omega
theorem zam {n:Nat} (h:n<9223372036854775807):wr .i64 ((n:Int)+1)=((n+1:Nat):Int):=by
 rw[zc1 (by omega) (by omega)];rfl
theorem zgb {j:Nat} (h:j<1000000000):wr .i64 (((j+1:Nat):Int)-1)=(j:Int):=by
 rw[show ((j+1:Nat):Int)-1=(j:Int) by omega]
 exact zc1 (by omega) (by omega)
theorem dpos {j:Nat}:decide ((0:Int)<((j+1:Nat):Int))=true:=by rw[decide_eq_true_eq];omega
theorem z0q:decide ((0:Int)<((0:Nat):Int))=false:=rfl
theorem zah {α:Type} (l:List α) (i:Nat):getI l (i:Int)=l[i]?:=by
 unfold getI;simp
theorem zahh:LIM=1073741824:=rfl
theorem za2:FUEL=18446744073709551616:=rfl
end Go.Proofs.YtdahfgialanmpaaGreatDoor
namespace Go.Proofs.YtdahfgialanmpaaGreatDoor
open Ev
open Go (IntKind)
theorem dlt {i n:Nat} (h:i<n):decide ((i:Int)<(n:Int))=true:=by simpa using h
theorem dge {n:Nat}:decide ((n:Int)<(n:Int))=false:=by simp
theorem k_or {α:Type} (k:Bool→α) (a b:Bool):(bif a then k true else k b)=k (a||b):=by cases a<;>rfl
theorem za7 {α:Type} (k:Bool→α) (a b:Bool):(bif a then k b else k false)=k (a&&b):=by cases a<;>rfl
theorem zj6 {α:Type} (k:Bool→α) (a b:Bool):(bif a then k a else k b)=k (a||b):=by cases a<;>rfl
theorem zc3 {α:Type} (c:Bool) (a b:α):(bif c then some a else some b)=some (bif c then a else b):=by cases c<;>rfl
theorem zax4 (b:UInt8):wr .i64 (b.toNat:Int)=(b.toNat:Int):=by
 have:=b.toNat_lt
 exact zc1 (by omega) (by omega)
def dcdI (r:List UInt8):Int×Int:=(((dcd r).1:Int),((dcd r).2:Int))
theorem z8r {s:List UInt8} {i:Nat} (hi:i<s.length) (hs:s.length<1000000000):qay s (i:Int)=some (dcdI (s.drop i)):=by
 obtain ⟨a,r,hr⟩:∃a r,s.drop i=a::r:=⟨s[i],s.drop (i+1),List.drop_eq_getElem_cons hi⟩
 have g:∀k,getI s ((i+k:Nat):Int)=(a::r)[k]?:=fun k=>by rw[zah,←hr,List.getElem?_drop]
 have h0:getI s (i:Int)=some a:=g 0
 have w1:wr .i64 ((i:Int)+1)=((i+1:Nat):Int):=zam (by omega)
 have w2:wr .i64 ((i:Int)+2)=((i+2:Nat):Int):=by rw[zc1 (by omega) (by omega)];rfl
 have hl:s.length=i+(r.length+1):=by
  have:=congrArg List.length hr
  simp only[List.length_drop,List.length_cons]at this
  omega
 have ha:=a.toNat_lt
 unfold qay
 rw[hr]
 unfold dcdI dcd
 have t1:decide (((i+1:Nat):Int)<((i+(r.length+1):Nat):Int))=decide (0<r.length):=by congr 1;simp only[eq_iff_iff];omega
 have t2:decide (((i+2:Nat):Int)<((i+(r.length+1):Nat):Int))=decide (1<r.length):=by congr 1;simp only[eq_iff_iff];omega
 simp -zeta only[h0,w1,w2,g 1,g 2,zax4,k_or,za7,hl,t1,t2]
 dsimp only
 clear hl t1 t2 g hr hi h0 w1 w2 hs
 by_cases c1:32≤a.toNat∧a.toNat<127
 ·have e1:(decide ((32:Int)≤(a.toNat:Int))&&decide ((a.toNat:Int)<127))=true:=by simp;omega
  simp only[e1,cond_true,if_pos c1];rfl
 have e1:(decide ((32:Int)≤(a.toNat:Int))&&decide ((a.toNat:Int)<127))=false:=by simp;omega
 simp only[e1,cond_false,if_neg c1]
 by_cases c2:194≤a.toNat∧a.toNat<224
 ·have e2:(decide ((194:Int)≤(a.toNat:Int))&&decide ((a.toNat:Int)<224))=true:=by simp;omega
  have e3:decide ((224:Int)≤(a.toNat:Int))=false:=by simp;omega
  simp only[e2,e3,Bool.true_and,Bool.false_and,cond_false,if_pos c2]
  rcases r with _|⟨b,r⟩
  ·rfl
  have hb:=b.toNat_lt
  have l1:decide (0<(b::r).length)=true:=by simp
  have g1:(a::b::r)[1]?=some b:=rfl
  have e4:wr .i64 ((wr .i64 ((wr .i64 ((wr .i64 ((a.toNat:Int)-192))*64))+(b.toNat:Int)))-128)=((a.toNat:Int)-192)*64+(b.toNat:Int)-128:=by
   rw[zc1 (n:=(a.toNat:Int)-192) (by omega) (by omega),zc1 (n:=((a.toNat:Int)-192)*64) (by omega) (by omega),zc1 (n:=((a.toNat:Int)-192)*64+(b.toNat:Int)) (by omega) (by omega),zc1 (by omega) (by omega)]
  simp only[l1,g1,e4,cond_true]
  by_cases cb:128≤b.toNat
  ·have b1:decide ((128:Int)≤(b.toNat:Int))=true:=by simp;omega
   simp only[b1,cond_true]
   by_cases cb2:b.toNat<192
   ·have b2:decide ((b.toNat:Int)<192)=true:=by simp;omega
    simp only[b2,g1,cond_true,Bool.cond_eq_ite,decide_eq_true_eq]
    rw[if_pos True.intro]
    split
    ·rw[if_pos (by omega)];simp only[Option.some.injEq,Prod.mk.injEq];omega
    ·rw[if_neg (by omega)];rfl
   ·have b2:decide ((b.toNat:Int)<192)=false:=by simp;omega
    simp only[b2,cond_false]
    rw[if_neg (by omega)];rfl
  ·have b1:decide ((128:Int)≤(b.toNat:Int))=false:=by simp;omega
   simp only[b1,cond_false]
   rw[if_neg (by omega)];rfl
 have e2:(decide ((194:Int)≤(a.toNat:Int))&&decide ((a.toNat:Int)<224))=false:=by simp;omega
 simp only[e2,Bool.false_and,cond_false,if_neg c2]
 by_cases c3:224≤a.toNat∧a.toNat<240
 ·have e3:(decide ((224:Int)≤(a.toNat:Int))&&decide ((a.toNat:Int)<240))=true:=by simp;omega
  simp only[e3,Bool.true_and,if_pos c3]
  rcases r with _|⟨b,_|⟨c,r⟩⟩
  ·rfl
  ·rfl
  have hb:=b.toNat_lt
  have hc:=c.toNat_lt
  have l1:decide (1<(b::c::r).length)=true:=by simp
  have g1:(a::b::c::r)[1]?=some b:=rfl
  have g2:(a::b::c::r)[2]?=some c:=rfl
  have e4:wr .i64 ((wr .i64 ((wr .i64 ((wr .i64 ((wr .i64 ((a.toNat:Int)-224))*4096))+(wr .i64 ((wr .i64 ((b.toNat:Int)-128))*64))))+(c.toNat:Int)))-128)=((a.toNat:Int)-224)*4096+((b.toNat:Int)-128)*64+(c.toNat:Int)-128:=by
   rw[zc1 (n:=(a.toNat:Int)-224) (by omega) (by omega),zc1 (n:=((a.toNat:Int)-224)*4096) (by omega) (by omega),zc1 (n:=(b.toNat:Int)-128) (by omega) (by omega),zc1 (n:=((b.toNat:Int)-128)*64) (by omega) (by omega),
    zc1 (n:=((a.toNat:Int)-224)*4096+((b.toNat:Int)-128)*64) (by omega) (by omega),zc1 (n:=((a.toNat:Int)-224)*4096+((b.toNat:Int)-128)*64+(c.toNat:Int)) (by omega) (by omega),zc1 (by omega) (by omega)]
  simp only[l1,g1,g2,e4,cond_true]
  by_cases cb:128≤b.toNat
  ·have b1:decide ((128:Int)≤(b.toNat:Int))=true:=by simp;omega
   simp only[b1,cond_true]
   by_cases cb2:b.toNat<192
   ·have b2:decide ((b.toNat:Int)<192)=true:=by simp;omega
    simp only[b2,cond_true]
    by_cases cc:128≤c.toNat
    ·have d1:decide ((128:Int)≤(c.toNat:Int))=true:=by simp;omega
     simp only[d1,cond_true]
     by_cases cc2:c.toNat<192
     ·have d2:decide ((c.toNat:Int)<192)=true:=by simp;omega
      simp only[d2,g1,g2,cond_true,Bool.cond_eq_ite,Bool.and_eq_true,Bool.or_eq_true,decide_eq_true_eq]
      rw[if_pos True.intro]
      split
      ·rw[if_pos (by omega)];simp only[Option.some.injEq,Prod.mk.injEq];omega
      ·rw[if_neg (by omega)];rfl
     ·have d2:decide ((c.toNat:Int)<192)=false:=by simp;omega
      simp only[d2,cond_false]
      rw[if_neg (by omega)];rfl
    ·have d1:decide ((128:Int)≤(c.toNat:Int))=false:=by simp;omega
     simp only[d1,cond_false]
     rw[if_neg (by omega)];rfl
   ·have b2:decide ((b.toNat:Int)<192)=false:=by simp;omega
    simp only[b2,cond_false]
    rw[if_neg (by omega)];rfl
  ·have b1:decide ((128:Int)≤(b.toNat:Int))=false:=by simp;omega
   simp only[b1,cond_false]
   rw[if_neg (by omega)];rfl
 ·have e3:(decide ((224:Int)≤(a.toNat:Int))&&decide ((a.toNat:Int)<240))=false:=by simp;omega
  simp only[e3,Bool.false_and,cond_false,if_neg c3];rfl
theorem zaji (l:List UInt8):(dcd l).2≤l.length:=by
 unfold dcd
 split
 ·simp
 ·rename_i a r
  split
  ·simp
  ·split
   ·split
    ·split<;>simp
    ·simp
   ·split
    ·split
     ·split<;>simp
     ·simp
    ·simp
theorem zabw (n:Nat) {s:List UInt8} {i:Nat} (hi:i<s.length):vldN (n+1) (s.drop i)=if (dcd (s.drop i)).2=0 then false else vldN n (s.drop (i+(dcd (s.drop i)).2)):=by
 have:s.drop i≠[]:=by simp;omega
 simp only[vldN,this,if_false,List.drop_drop]
theorem zak8 {s:List UInt8} (hs:s.length<1000000000):qan s=some (vld s):=by
 have key:∀n i,s.length-i≤n→i≤s.length→za8 znk (n+1) (s,(i:Int),())=some (if vldN n (s.drop i) then .inl () else .inr (false,())):=by
  intro n
  induction n with
  |zero=>
   intro i h1 h2
   have:i=s.length:=by omega
   subst this
   simp only[za8,znk,dge,cond_false,vldN,if_true]
  |succ n ih=>
   intro i h1 h2
   rw[za8]
   by_cases hi:i<s.length
   ·rw[zabw n hi]
    have hle:=zaji (s.drop i)
    rw[List.length_drop]at hle
    simp only[znk,dlt hi,cond_true,z8r hi hs,dcdI]
    by_cases h0:(dcd (s.drop i)).2=0
    ·simp[h0]
    ·have hb:(((dcd (s.drop i)).2:Int)==0)=false:=by simp;omega
     have hw:wr .i64 ((i:Int)+((dcd (s.drop i)).2:Int))=((i+(dcd (s.drop i)).2:Nat):Int):=by rw[zc1 (by omega) (by omega)];rfl
     simp only[hb,cond_false,hw,h0,if_false]
     exact ih _ (by omega) (by omega)
   ·have:i=s.length:=by omega
    subst this
    simp[znk,vldN]
 unfold qan
 have:=key s.length 0 (by omega) (by omega)
 rw[show ((0:Int))=((0:Nat):Int) from rfl,zba (s.length+1) (by rw[za2];omega) this]
 simp only[List.drop_zero]
 unfold vld
 cases vldN s.length s<;>rfl
theorem za31 {s:List UInt8} {i:Nat} (hi:i<s.length) (hs:s.length<1000000000):qf s (i:Int)=some ((wid (s.drop i):Nat):Int):=by
 unfold qf wid
 rw[z8r hi hs]
 show some (if (((dcd (s.drop i)).2:Nat):Int)<1 then (1:Int) else (((dcd (s.drop i)).2:Nat):Int))=_
 rw[Option.some.injEq]
 by_cases h:(dcd (s.drop i)).2<1
 ·rw[if_pos h,if_pos (by omega)];rfl
 ·rw[if_neg h,if_neg (by omega)]
theorem za3p {l:List UInt8} (h:l≠[]):1≤wid l∧wid l≤l.length:=by
 have:=zaji l
 have:0<l.length:=List.length_pos_iff.2 h
 unfold wid
 split<;>omega
theorem z4b (n:Nat) {s:List UInt8} {i:Nat} (hi:i<s.length) {out:List UInt8} {gap:Bool}:clnN (n+1) (s.drop i) out gap =
 if blk (dcd (s.drop i)).1 then clnN n (s.drop (i+wid (s.drop i))) out true else clnN n (s.drop (i+wid (s.drop i))) ((if gap&&!(out==[]) then out++[32] else out)++(s.drop i).take (wid (s.drop i))) false:=by
 have:s.drop i≠[]:=by simp;omega
 rw[clnN,if_neg this,List.drop_drop]
theorem za1b {s:List UInt8} (hs:s.length<100000000):qa7 s=some (cln s):=by
 have key:∀n i (out:List UInt8) (gap:Bool),s.length-i≤n→i≤s.length→out.length≤2*i→za8 znh (n+1) (s,out,gap,(i:Int),())=some (clnN n (s.drop i) out gap,()):=by
  intro n
  induction n with
  |zero=>
   intro i out gap h1 h2 h3
   have:i=s.length:=by omega
   subst this
   simp only[za8,znh,dge,cond_false,clnN]
  |succ n ih=>
   intro i out gap h1 h2 h3
   rw[za8]
   by_cases hi:i<s.length
   ·rw[z4b n hi]
    have hw0:=za3p (l:=s.drop i) (by simp;omega)
    rw[List.length_drop]at hw0
    obtain ⟨k,hk⟩:∃k,wid (s.drop i)=k:=⟨_,rfl⟩
    rw[hk]at hw0 ⊢
    have hw:wr .i64 ((i:Int)+(k:Int))=((i+k:Nat):Int):=by rw[zc1 (by omega) (by omega)];rfl
    have hb:qak ((dcd (s.drop i)).1:Int)=some (blk (dcd (s.drop i)).1):=by
     unfold qak
     simp -zeta only[k_or]
     simp only[Option.some.injEq,blk]
     rw[Bool.eq_iff_iff];simp;omega
    simp only[znh,dlt hi,cond_true,z8r hi (show s.length<1000000000 by omega),za31 hi (show s.length<1000000000 by omega),dcdI,hb,hk,hw]
    cases blk (dcd (s.drop i)).1 with
    |true=>simp only[cond_true,if_true];exact ih _ _ _ (by omega) (by omega) (by omega)
    |false=>
     have hc:(decide ((0:Int)≤(i:Int))&&(decide ((i:Int)≤((i+k:Nat):Int))&&decide (((i+k:Nat):Int)≤(s.length:Int))))=true:=by simp;omega
     have ht:(s.take (i+k)).drop i=(s.drop i).take k:=by rw[List.drop_take];congr 1;omega
     simp only[cond_false,hc,cond_true,Int.toNat_natCast,ht,Bool.false_eq_true,if_false]
     have hlen:∀o:List UInt8,o.length≤2*i+1→decide (o.length+((s.drop i).take k).length≤LIM)=true:=fun o ho=>by
      rw[zahh];simp only[List.length_take,List.length_drop,decide_eq_true_eq];omega
     cases hg:(gap&&!(out==[])) with
     |true=>
      simp only[Bool.and_eq_true,Bool.not_eq_true']at hg
      have h32:decide (out.length+([32]:List Nat).length≤LIM)=true:=by rw[zahh];simp;omega
      simp only[hg.1,hg.2,hc,ht,Int.toNat_natCast,cond_true,Bool.not_false,h32,hlen (out++[32]) (by simp;omega),if_true]
      exact ih _ _ _ (by omega) (by omega) (by simp;omega)
     |false=>
      cases gap with
      |false=>
       simp only[cond_false,hlen out (by omega),cond_true,Bool.false_eq_true,if_false]
       exact ih _ _ _ (by omega) (by omega) (by simp;omega)
      |true=>
       simp only[Bool.true_and]at hg
       simp only[cond_true,hg,cond_false,hlen out (by omega),Bool.false_eq_true,if_false]
       exact ih _ _ _ (by omega) (by omega) (by simp;omega)
   ·have:i=s.length:=by omega
    subst this
    simp[znh,clnN]
 unfold qa7
 have:=key s.length 0 [] false (by omega) (by omega) (by simp)
 rw[show ((0:Int))=((0:Nat):Int) from rfl,zba (s.length+1) (by rw[za2];omega) this]
 try rfl
end Go.Proofs.YtdahfgialanmpaaGreatDoor
namespace Go.Proofs.YtdahfgialanmpaaGreatDoor
open Ev
open Go (IntKind)
def rng (lo hi n:Int):Bool:=decide (lo≤n)&&decide (n≤hi)
theorem zalu (n:Int):qfi n=some (rng 0 109572 n):=by
 unfold qfi
 simp -zeta only[k_or,za7]
 try rfl
theorem za18 (n:Int):qe1 n=some (rng 0 109572 n):=by
 unfold qe1
 simp -zeta only[k_or,za7]
 try rfl
theorem za2d (n:Int):qel n=some (rng 1 9999 n):=by
 unfold qel
 simp -zeta only[k_or,za7]
 try rfl
theorem z8q (n lo hi:Int):qax n lo hi=some (rng lo hi n):=by
 unfold qax
 simp -zeta only[k_or,za7]
 try rfl
def zd8 (l:List Charge) (i:Nat) (x:Charge):Int:=
 bif zb5 l i (fun y=>decide (x.ID≤y.ID)) then 7
 else bif decide (x.ID<1)||decide (99999<x.ID)||decide (x.Patron<1)||decide (9999<x.Patron)||decide (x.Item<1)||decide (9999<x.Item)||!(rng 0 109572 x.Day) then 2
 else bif decide (x.Kind<1)||decide (3<x.Kind) then 1
 else bif decide (x.Amount<1)||decide (100000000<x.Amount)||decide (x.Paid<0)||decide (x.Amount≤x.Paid) then 2 else 0
def zch (l:List Charge):Int:=bif decide (128<(l.length:Int)) then 13 else zb4 (zd8 l) 0 l
theorem z1w {l:List Charge} (hl:l.length<1000000000):zad zkr (l,0,())=some (if zb4 (zd8 l) 0 l==0 then .inl () else .inr (zb4 (zd8 l) 0 l,())):=by
 have h:=zd3 (step:=zkr) (fun i=>(l,(i:Int),())) l (zd8 l) (.inl ()) (fun e=>.inr (e,())) hl
  (by simp only[zkr,dge,cond_false])
  (fun i x hx=>by
   have hi:=(List.getElem?_eq_some_iff.1 hx).1
   have hxm:=List.mem_of_getElem? hx
   unfold zd8
   simp only[zdb]
   rcases i with _|j
   ·simp -zeta only[zkr,dlt hi,zah,hx,k_or,za7,z0q,cond_false,cond_true,zb5,zam (show 0<9223372036854775807 by omega),zalu]
    try rfl
   ·have hj:l[j]?=some l[j]:=List.getElem?_eq_getElem (by omega)
    simp -zeta only[zkr,dlt hi,zah,hx,k_or,za7,dpos,zgb (show j<1000000000 by omega),hj,cond_false,cond_true,zb5,zam (show j+1<9223372036854775807 by omega),zalu]
    rfl)
 exact h
theorem za1a {l:List Charge} (hl:l.length<1000000000):qa6 l=some (zch l):=by
 unfold qa6 zch
 rw[z1w hl]
 generalize zb4 (zd8 l) 0 l=e
 cases decide (128<(l.length:Int)) with
 |true=>rfl
 |false=>
  by_cases h:e=0
  ·subst h;rfl
  ·have h2:(e==0)=false:=by simpa using h
   simp only[h2,Bool.false_eq_true,if_false,cond_false]
def zfa (l:List Patron) (i:Nat) (x:Patron):Int:=
 bif decide (x.ID<1)||decide (9999<x.ID) then 2
 else bif zb5 l i (fun y=>decide (x.ID≤y.ID)) then 7
 else bif decide (x.Kind<1)||decide (9<x.Kind)||decide (x.Branch<1)||decide (4<x.Branch) then 1
 else bif decide (x.Until<0)||decide (109572<x.Until) then 2
 else bif x.Name==[]||!(vld x.Name)||!(cln x.Name==x.Name) then 3
 else bif decide (200<(x.Name.length:Int)) then 4 else 0
def zfb (l:List Patron):Int:=bif decide (32<(l.length:Int)) then 13 else zb4 (zfa l) 0 l
theorem z13 {l:List Patron} (hl:l.length<1000000000) (hn:∀x∈l,x.Name.length<10000000):zad zkw (l,0,())=some (if zb4 (zfa l) 0 l==0 then .inl () else .inr (zb4 (zfa l) 0 l,())):=by
 have h:=zd3 (step:=zkw) (fun i=>(l,(i:Int),())) l (zfa l) (.inl ()) (fun e=>.inr (e,())) hl
  (by simp only[zkw,dge,cond_false])
  (fun i x hx=>by
   have hi:=(List.getElem?_eq_some_iff.1 hx).1
   have hxm:=List.mem_of_getElem? hx
   have hv:=zak8 (s:=x.Name) (by have:=hn x hxm;omega)
   have hc:=za1b (s:=x.Name) (by have:=hn x hxm;omega)
   unfold zfa
   simp only[zdb]
   rcases i with _|j
   ·simp -zeta only[zkw,dlt hi,zah,hx,k_or,za7,z0q,cond_false,cond_true,zb5,zam (show 0<9223372036854775807 by omega),hv,hc]
    try rfl
   ·have hj:l[j]?=some l[j]:=List.getElem?_eq_getElem (by omega)
    simp -zeta only[zkw,dlt hi,zah,hx,k_or,za7,dpos,zgb (show j<1000000000 by omega),hj,cond_false,cond_true,zb5,zam (show j+1<9223372036854775807 by omega),hv,hc]
    rfl)
 exact h
theorem za1j {l:List Patron} (hl:l.length<1000000000) (hn:∀x∈l,x.Name.length<10000000):qaq l=some (zfb l):=by
 unfold qaq zfb
 rw[z13 hl hn]
 generalize zb4 (zfa l) 0 l=e
 cases decide (32<(l.length:Int)) with
 |true=>rfl
 |false=>
  by_cases h:e=0
  ·subst h;rfl
  ·have h2:(e==0)=false:=by simpa using h
   simp only[h2,Bool.false_eq_true,if_false,cond_false]
def zed (l:List Loan) (i:Nat) (x:Loan):Int:=
 bif zb5 l i (fun y=>decide (x.Item≤y.Item)) then 7
 else bif decide (x.Item<1)||decide (9999<x.Item)||decide (x.Patron<1)||decide (9999<x.Patron)||decide (x.Out<0)||decide (109572<x.Out)||decide (x.Due<0)||decide (109572<x.Due)||decide (x.Due<x.Out)||decide (x.Renewals<0)||decide (10<x.Renewals) then 2 else 0
def zbn (l:List Loan):Int:=bif decide (64<(l.length:Int)) then 13 else zb4 (zed l) 0 l
theorem z11 {l:List Loan} (hl:l.length<1000000000):zad zkv (l,0,())=some (if zb4 (zed l) 0 l==0 then .inl () else .inr (zb4 (zed l) 0 l,())):=by
 have h:=zd3 (step:=zkv) (fun i=>(l,(i:Int),())) l (zed l) (.inl ()) (fun e=>.inr (e,())) hl
  (by simp only[zkv,dge,cond_false])
  (fun i x hx=>by
   have hi:=(List.getElem?_eq_some_iff.1 hx).1
   have hxm:=List.mem_of_getElem? hx
   unfold zed
   simp only[zdb]
   rcases i with _|j
   ·simp -zeta only[zkv,dlt hi,zah,hx,k_or,za7,z0q,cond_false,cond_true,zb5,zam (show 0<9223372036854775807 by omega)]
    try rfl
   ·have hj:l[j]?=some l[j]:=List.getElem?_eq_getElem (by omega)
    simp -zeta only[zkv,dlt hi,zah,hx,k_or,za7,dpos,zgb (show j<1000000000 by omega),hj,cond_false,cond_true,zb5,zam (show j+1<9223372036854775807 by omega)]
    rfl)
 exact h
theorem zak7 {l:List Loan} (hl:l.length<1000000000):qam l=some (zbn l):=by
 unfold qam zbn
 rw[z11 hl]
 generalize zb4 (zed l) 0 l=e
 cases decide (64<(l.length:Int)) with
 |true=>rfl
 |false=>
  by_cases h:e=0
  ·subst h;rfl
  ·have h2:(e==0)=false:=by simpa using h
   simp only[h2,Bool.false_eq_true,if_false,cond_false]
def zb0 (h:Hold):Int:=
 bif decide (h.ID<1)||decide (99999<h.ID)||!(rng 1 9999 h.Patron)||!(rng 1 9999 h.Record)||!(h.Item==0)&&!(rng 1 9999 h.Item)||decide (h.Pickup<1)||decide (4<h.Pickup)||!(rng 0 109572 h.Placed)||!(h.Got==0)&&!(rng 1 9999 h.Got)||!(rng 0 109572 h.Until)||!(rng 0 109572 h.Asleep)||decide (h.Rank<0)||decide (9<h.Rank) then 2
 else bif decide (h.State<1)||decide (3<h.State) then 1
 else bif !((decide (0<h.Got))==(!(h.State==1)))||!((decide (0<h.Until))==(h.State==3)) then 12 else 0
theorem zalp (h:Hold):qdw h=some (zb0 h):=by
 unfold qdw zb0
 simp -zeta only[k_or,za7,za2d,za18,←zc3]
 try rfl
def zdd (l:List Hold) (i:Nat) (x:Hold):Int:=
 bif zb5 l i (fun y=>decide (x.ID≤y.ID)) then 7 else bif !(zb0 x==0) then zb0 x else 0
theorem z8y {l:List Hold} (hl:l.length<1000000000):zad zvp (l,0,())=some (if zb4 (zdd l) 0 l==0 then .inl (l,()) else .inr (zb4 (zdd l) 0 l,())):=by
 have h:=zd3 (step:=zvp) (fun i=>(l,(i:Int),())) l (zdd l) (.inl (l,())) (fun e=>.inr (e,())) hl
  (by simp only[zvp,dge,cond_false])
  (fun i x hx=>by
   have hi:=(List.getElem?_eq_some_iff.1 hx).1
   have hxm:=List.mem_of_getElem? hx
   have hs:∀(a:List Hold×Int×Unit) (g:Int→((List Hold×Unit)⊕(Int×Unit))),(bif !(zb0 x==0) then zic a g (zb0 x) else zic a g 0)=bif !(zb0 x==0) then some (.inr (g (zb0 x))) else some (.inl a):=fun a g=>by
    unfold zic
    cases zb0 x==0<;>rfl
   unfold zdd
   simp only[zdb,hs]
   rcases i with _|j
   ·simp -zeta only[zvp,dlt hi,zah,hx,k_or,za7,z0q,cond_false,cond_true,zb5,zam (show 0<9223372036854775807 by omega),zalp]
    try rfl
   ·have hj:l[j]?=some l[j]:=List.getElem?_eq_getElem (by omega)
    simp -zeta only[zvp,dlt hi,zah,hx,k_or,za7,dpos,zgb (show j<1000000000 by omega),hj,cond_false,cond_true,zb5,zam (show j+1<9223372036854775807 by omega),zalp]
    rfl)
 exact h
def ze7 (x y:Hold):Bool:=x.Patron==y.Patron&&x.Record==y.Record||decide (0<x.Got)&&x.Got==y.Got
theorem z2b {l:List Hold} {i:Nat} {x:Hold} (hl:l.length<1000000000) (hx:l[i]?=some x):zad zla (l,(i:Int),0,())=some (bif (l.take i).all (fun y=>!(ze7 x y)) then .inl (l,(i:Int),()) else .inr (7,())):=by
 have hi:=(List.getElem?_eq_some_iff.1 hx).1
 have h:=zav (step:=zla) (fun k=>(l,(i:Int),(k:Int),())) (l.take i) (fun _ y=>!(ze7 x y)) (.inr (7,())) (.inl (l,(i:Int),())) (by rw[List.length_take];omega)
  (by rw[List.length_take,Nat.min_eq_left (by omega)];simp only[zla,dge,cond_false])
  (fun k y hy=>by
   have hk:=(List.getElem?_eq_some_iff.1 hy).1
   rw[List.length_take]at hk
   have hy2:l[k]?=some y:=by rw[←hy,List.getElem?_take_of_lt (by omega)]
   simp -zeta only[zla,dlt (show k<i by omega),zah,hx,hy2,k_or,za7,cond_true,zam (show k<9223372036854775807 by omega)]
   dsimp only
   unfold ze7
   cases (x.Patron==y.Patron&&x.Record==y.Record||decide (0<x.Got)&&x.Got==y.Got)<;>rfl)
 rw[show zad zla (l,(i:Int),0,())=_ from h,zaz]
def zhz (l:List Hold):Bool:=zc2 (fun i x=>(l.take i).all (fun y=>!(ze7 x y))) 0 l
theorem z2a {l:List Hold} (hl:l.length<1000000000):zad znx (l,0,())=some (bif zhz l then .inl () else .inr (7,())):=by
 have h:=zav (step:=znx) (fun i=>(l,(i:Int),())) l (fun i x=>(l.take i).all (fun y=>!(ze7 x y))) (.inr (7,())) (.inl ()) hl
  (by simp only[znx,dge,cond_false])
  (fun i x hx=>by
   have hi:=(List.getElem?_eq_some_iff.1 hx).1
   simp only[znx,dlt hi,cond_true,z2b hl hx]
   cases (l.take i).all (fun y=>!(ze7 x y)) with
   |true=>simp only[cond_true,zam (show i<9223372036854775807 by omega)]
   |false=>rfl)
 exact h
def zdz (l:List Hold):Int:=bif decide (64<(l.length:Int)) then 13 else bif zb4 (zdd l) 0 l==0 then (bif zhz l then 0 else 7) else zb4 (zdd l) 0 l
theorem za34 {l:List Hold} (hl:l.length<1000000000):qm l=some (zdz l):=by
 unfold qm zdz
 rw[z8y hl]
 cases decide (64<(l.length:Int)) with
 |true=>rfl
 |false=>
  by_cases h:zb4 (zdd l) 0 l=0
  ·simp only[h,beq_self_eq_true,if_true,cond_false,cond_true,z2a hl]
   cases zhz l<;>rfl
  ·have:(zb4 (zdd l) 0 l==0)=false:=by simpa using h
   simp only[this,Bool.false_eq_true,if_false,cond_false]
def zlh (r:Rule):Bool:=rng 0 9 r.Patron&&rng 0 9 r.Item&&rng 0 4 r.Branch&&(rng 0 365 r.Days&&rng 0 10 r.Renewals&&rng 0 99 r.Loans)&&(rng 0 1000 r.Fine&&rng 0 30 r.Grace&&rng 0 100000000 r.MaxFine)&&rng 1 60 r.Shelf&&rng 1 60 r.Recall&&rng 0 109572 r.Fixed&&rng 0 9 r.Rank
theorem za12 (r:Rule):qcz r=some (zlh r):=by
 unfold qcz zlh
 simp -zeta only[k_or,za7,z8q]
 try rfl
def zhl (x y:Rule):Bool:=x.Patron==y.Patron&&x.Item==y.Item&&x.Branch==y.Branch
def zgx (l:List Rule) (i:Nat) (x:Rule):Int:=bif !(zlh x) then 2 else bif (l.take i).all (fun y=>!(zhl y x)) then 0 else 7
theorem z8x {l:List Rule} {i:Nat} {x:Rule} (hl:l.length<1000000000) (hx:l[i]?=some x):zad zvn (l,(i:Int),0,())=some (bif (l.take i).all (fun y=>!(zhl y x)) then .inl (l,(i:Int),()) else .inr (7,())):=by
 have hi:=(List.getElem?_eq_some_iff.1 hx).1
 have h:=zav (step:=zvn) (fun k=>(l,(i:Int),(k:Int),())) (l.take i) (fun _ y=>!(zhl y x)) (.inr (7,())) (.inl (l,(i:Int),())) (by rw[List.length_take];omega)
  (by rw[List.length_take,Nat.min_eq_left (by omega)];simp only[zvn,dge,cond_false])
  (fun k y hy=>by
   have hk:=(List.getElem?_eq_some_iff.1 hy).1
   rw[List.length_take]at hk
   have hy2:l[k]?=some y:=by rw[←hy,List.getElem?_take_of_lt (by omega)]
   simp -zeta only[zvn,dlt (show k<i by omega),zah,hx,hy2,k_or,za7,cond_true,zam (show k<9223372036854775807 by omega)]
   dsimp only
   unfold zhl
   cases (y.Patron==x.Patron&&y.Item==x.Item&&y.Branch==x.Branch)<;>rfl)
 rw[show zad zvn (l,(i:Int),0,())=_ from h,zaz]
theorem z8w {l:List Rule} (hl:l.length<1000000000):zad z18 (l,0,())=some (if zb4 (zgx l) 0 l==0 then .inl () else .inr (zb4 (zgx l) 0 l,())):=by
 have h:=zd3 (step:=z18) (fun i=>(l,(i:Int),())) l (zgx l) (.inl ()) (fun e=>.inr (e,())) hl
  (by simp only[z18,dge,cond_false])
  (fun i x hx=>by
   have hi:=(List.getElem?_eq_some_iff.1 hx).1
   unfold zgx
   simp only[zdb,z18,dlt hi,zah,hx,cond_true,za12,z8x hl hx]
   cases zlh x with
   |false=>rfl
   |true=>
    simp only[Bool.not_true,cond_false]
    cases (l.take i).all (fun y=>!(zhl y x)) with
    |true=>simp only[cond_true,zam (show i<9223372036854775807 by omega)];rfl
    |false=>rfl)
 exact h
def zgg (l:List Rule):Int:=bif decide (32<(l.length:Int)) then 13 else zb4 (zgx l) 0 l
theorem za33 {l:List Rule} (hl:l.length<1000000000):qj l=some (zgg l):=by
 unfold qj zgg
 rw[z8w hl]
 generalize zb4 (zgx l) 0 l=e
 cases decide (32<(l.length:Int)) with
 |true=>rfl
 |false=>
  by_cases h:e=0
  ·subst h;rfl
  ·have h2:(e==0)=false:=by simpa using h
   simp only[h2,Bool.false_eq_true,if_false,cond_false]
def incr (l:List Int):Bool:=zc2 (fun i x=>!(zb5 l i (fun y=>decide (x≤y)))) 0 l
theorem ztv {X:Type} {p:Nat→X→Bool}:∀{l:List X} {i:Nat},zc2 p (i+1) l=zc2 (fun i=>p (i+1)) i l:=by
 intro l
 induction l with
 |nil=>intros;rfl
 |cons x l ih=>intro i;simp only[zc2];rw[ih]
theorem z6d (l:List Int):incr l=zc2 (fun i x=>!(zb5 l (i+1) (fun y=>decide (x≤y)))) 0 l.tail:=by
 cases l with
 |nil=>rfl
 |cons x l=>
  unfold incr
  simp only[zc2,List.tail_cons]
  rw[ztv]
  try rfl
def zcm (c:Calendar):Int:=
 bif decide (c.Week<0)||decide (126<c.Week) then 1
 else bif decide (64<(c.Closed.length:Int)) then 13
 else bif c.Closed.all (fun x=>!(decide (x<0)||decide (109572<x))) then (bif incr c.Closed then 0 else 7) else 2
theorem z80 {c:Calendar} (hl:c.Closed.length<1000000000):zad zvv (0,c,())=some (bif c.Closed.all (fun x=>!(decide (x<0)||decide (109572<x))) then .inl (c,()) else .inr (2,())):=by
 have h:=zav (step:=zvv) (fun i=>((i:Int),c,())) c.Closed (fun _ x=>!(decide (x<0)||decide (109572<x))) (.inr (2,())) (.inl (c,())) hl
  (by simp only[zvv,dge,cond_false])
  (fun i x hx=>by
   have hi:=(List.getElem?_eq_some_iff.1 hx).1
   simp -zeta only[zvv,dlt hi,zah,hx,k_or,za7,cond_true,zam (show i<9223372036854775807 by omega)]
   cases (decide (x<0)||decide (109572<x))<;>rfl)
 rw[show zad zvv (0,c,())=_ from h,zaz]
theorem z2f {c:Calendar} (hl:c.Closed.length<1000000000):zad zlb (1,c,())=some (bif incr c.Closed then .inl () else .inr (7,())):=by
 have h:=zav (step:=zlb) (fun i=>(((i+1:Nat):Int),c,())) c.Closed.tail (fun i x=>!(zb5 c.Closed (i+1) (fun y=>decide (x≤y)))) (.inr (7,())) (.inl ()) (by rw[List.length_tail];omega)
  (by
   rw[List.length_tail]
   have:decide (((c.Closed.length-1+1:Nat):Int)<(c.Closed.length:Int))=false:=by rw[decide_eq_false_iff_not];omega
   simp only[zlb,this,cond_false])
  (fun i x hx=>by
   rw[List.getElem?_tail]at hx
   have hi:=(List.getElem?_eq_some_iff.1 hx).1
   have hj:c.Closed[i]?=some c.Closed[i]:=List.getElem?_eq_getElem (by omega)
   simp -zeta only[zlb,dlt hi,zah,hx,cond_true,zgb (show i<1000000000 by omega),hj,zb5,zam (show i+1<9223372036854775807 by omega)]
   cases decide (x≤c.Closed[i])<;>rfl)
 rw[show zad zlb (1,c,())=_ from h,z6d]
theorem zag0 {c:Calendar} (hl:c.Closed.length<1000000000):qy c=some (zcm c):=by
 unfold qy zcm
 simp -zeta only[k_or]
 dsimp only
 rw[z80 hl]
 cases (decide (c.Week<0)||decide (126<c.Week)) with
 |true=>rfl
 |false=>
  cases decide (64<(c.Closed.length:Int)) with
  |true=>rfl
  |false=>
   cases c.Closed.all (fun x=>!(decide (x<0)||decide (109572<x))) with
   |false=>rfl
   |true=>
    simp only[cond_false,cond_true,z2f hl]
    cases incr c.Closed<;>rfl
end Go.Proofs.YtdahfgialanmpaaGreatDoor
namespace Go.Proofs.YtdahfgialanmpaaGreatDoor
open Ev
open Go (IntKind)
def zauh (state:Int):Bool:=(state==4||state==5||state==8||state==9||state==10)
theorem zk9 (state:Int):qfo state=some (zauh state):=by
 unfold qfo
 try simp -zeta only[k_or,za7,zj6,zc3,cond_true,cond_false]
 try dsimp only
 try simp only[zc3]
 try rfl
def zk8 (c:Custody):Bool:=(bif decide (c.State<1)||decide (12<c.State)||decide (c.Branch<1)||decide (4<c.Branch) then false
 else
  bif c.State==6 then
   decide (0≤c.Who)&&decide (c.Who≤9999)&&decide (1≤c.To)&&decide (c.To≤4)&&!c.To==c.Branch
  else
   bif !c.To==0 then false
   else bif zauh c.State then decide (1≤c.Who)&&decide (c.Who≤9999) else c.Who==0)
theorem zk7 (c:Custody):qdy c=some (zk8 c):=by
 unfold qdy
 try simp -zeta only[k_or,za7,zj6,zc3,cond_true,cond_false,zk9]
 try dsimp only
 try simp only[zc3]
 try rfl
def zp0 (m:Move):Bool:=(decide (0≤m.Day)&&decide (m.Day≤109572)&&decide (1≤m.Item)&&decide (m.Item≤9999)&&
 decide (1≤m.Kind)&&
 decide (m.Kind≤15)&&
 decide (1≤m.Branch)&&
 decide (m.Branch≤4)&&
 decide (0≤m.Who)&&
 decide (m.Who≤9999))
theorem znw (m:Move):qeu m=some (zp0 m):=by
 unfold qeu
 try simp -zeta only[k_or,za7,zj6,zc3,cond_true,cond_false,zk9,zk7]
 try dsimp only
 try simp only[zc3]
 try rfl
def z8t (kind:Int):(List Int):=(bif kind==1 then [1]
 else
  bif kind==2 then [2,5]
  else
   bif kind==3 then [3,5]
   else
    bif kind==4 then [4,8,9,10]
    else
     bif kind==5||kind==8 then [2,3]
     else
      bif kind==6 then [2,3,5]
      else
       bif kind==7 then [6]
       else
        bif kind==9 then [7]
        else
         bif kind==10 then [3]
         else
          bif kind==11 then [4]
          else
           bif kind==12 then [4,9]
           else
            bif kind==13 then [2,3,5,6,7]
            else bif kind==14 then [11] else bif kind==15 then [1,2,3,11,10] else [])
theorem ztc (kind:Int):qc1 kind=some (z8t kind):=by
 unfold qc1
 try simp -zeta only[k_or,za7,zj6,zc3,cond_true,cond_false,zk9,zk7,znw]
 try dsimp only
 try simp only[zc3]
 try rfl
def zex (kind:Int):Int:=(bif kind==1||(kind==4||(kind==7||(kind==9||kind==14))) then 2
 else
  bif kind==2 then 3
  else
   bif kind==3 then 4
   else
    bif kind==5 then 5
    else
     bif kind==6 then 6
     else
      bif kind==8 then 7
      else
       bif kind==10 then 8
       else bif kind==11 then 9 else bif kind==12 then 10 else bif kind==13 then 11 else 12)
theorem zzm (kind:Int):qfw kind=some (zex kind):=by
 unfold qfw
 try simp -zeta only[k_or,za7,zj6,zc3,cond_true,cond_false,zk9,zk7,znw,ztc]
 try dsimp only
 try simp only[zc3]
 try rfl
def zagt (c:Custody) (m:Move):Bool:=(bif m.Kind==1||(m.Kind==4||(m.Kind==9||m.Kind==14)) then m.Who==0
 else
  bif m.Kind==7 then m.Who==0&&m.Branch==c.To
  else
   bif m.Kind==6 then !m.Branch==c.Branch
   else
    bif m.Kind==3||(m.Kind==5||m.Kind==10) then m.Branch==c.Branch&&decide (1≤m.Who)
    else m.Branch==c.Branch&&m.Who==0)
theorem z8v (c:Custody) (m:Move):qdk c m=some (zagt c m):=by
 unfold qdk
 try simp -zeta only[k_or,za7,zj6,zc3,cond_true,cond_false,zk9,zk7,znw,ztc,zzm]
 try dsimp only
 try simp only[zc3]
 try rfl
def zvm (branch:Int):Custody:={State:=1,Branch:=branch,Who:=0,To:=0}
theorem zalq (branch:Int):qdx branch=some (zvm branch):=by
 unfold qdx
 try simp -zeta only[k_or,za7,zj6,zc3,cond_true,cond_false,zk9,zk7,znw,ztc,zzm,z8v]
 try dsimp only
 try simp only[zc3]
 try rfl
def zte (u:Custody):Bool:=(u.State==4||u.State==9||u.State==10)
theorem zals (u:Custody):qeo u=some (zte u):=by
 unfold qeo
 try simp -zeta only[k_or,za7,zj6,zc3,cond_true,cond_false,zk9,zk7,znw,ztc,zzm,z8v,zalq]
 try dsimp only
 try simp only[zc3]
 try rfl
end Go.Proofs.YtdahfgialanmpaaGreatDoor
namespace Go.Proofs.YtdahfgialanmpaaGreatDoor
open Ev
open Go (IntKind)
theorem hasX {X:Type} {p:X→Bool}:∀{l:List X} {i:Nat},zeg p (fun _ _=>true) false i l=l.any p:=by
 intro l
 induction l with
 |nil=>intros;rfl
 |cons x l ih=>intro i;simp only[zeg,List.any_cons];cases p x with|true=>rfl|false=>rw[cond_false,ih,Bool.false_or]
def zmn (state kind:Int):Bool:=(z8t kind).any (fun x=>x==state)
theorem zad5 {X:Type} {b:Bool} {x y:List X} {n:Nat} (hx:x.length<n) (hy:y.length<n):(bif b then x else y).length<n:=by cases b<;>assumption
theorem z2t (kind:Int):(z8t kind).length<10:=by
 unfold z8t
 repeat' first|apply zad5|decide
theorem za1i (state kind:Int):qap state kind=some (zmn state kind):=by
 unfold qap zmn
 rw[ztc]
 have hl:=z2t kind
 generalize z8t kind=l at hl ⊢
 have h:=zbm (step:=znm) (fun i=>(state,l,(i:Int),())) l (fun x=>x==state) (fun _ _=>(.inr (true,()):Unit⊕(Bool×Unit))) (.inl ()) (by omega)
  (by simp only[znm,dge,cond_false])
  (fun i x hx=>by
   have hi:=(List.getElem?_eq_some_iff.1 hx).1
   simp only[znm,dlt hi,zah,hx,cond_true,zam (show i<9223372036854775807 by omega)])
 dsimp only
 rw[show zad znm (state,l,0,())=_ from h,←hasX (i:=0)]
 have key:∀(l:List Int) (i:Nat),(match some (zeg (fun x=>x==state) (fun _ _=>(.inr (true,()):Unit⊕(Bool×Unit))) (.inl ()) i l) with|some (.inl _)=>some false|some (.inr (v,_))=>some v|none=>none)=some (zeg (fun x=>x==state) (fun _ _=>true) false i l):=by
  intro l
  induction l with
  |nil=>intro i;rfl
  |cons x l ih=>intro i;simp only[zeg];cases x==state with|true=>rfl|false=>exact ih _
 exact key l 0
def zbo (c:Custody) (m:Move):Custody×Int:=
 bif !(zk8 c)||!(zp0 m) then (⟨0,0,0,0⟩,1)
 else bif !(zmn c.State m.Kind) then (⟨0,0,0,0⟩,12)
 else bif m.Kind==3&&c.State==5&&!(m.Who==c.Who) then (⟨0,0,0,0⟩,16)
 else bif !(zagt c m) then (⟨0,0,0,0⟩,1)
 else bif zex m.Kind==2 then (⟨zex m.Kind,m.Branch,0,0⟩,0)
 else bif zex m.Kind==4||(zex m.Kind==5||zex m.Kind==8) then (⟨zex m.Kind,c.Branch,m.Who,0⟩,0)
 else bif zex m.Kind==6 then (⟨zex m.Kind,c.Branch,m.Who,m.Branch⟩,0)
 else bif zex m.Kind==9||zex m.Kind==10 then (⟨zex m.Kind,c.Branch,c.Who,0⟩,0)
 else (⟨zex m.Kind,c.Branch,0,0⟩,0)
theorem zall (c:Custody) (m:Move):qcm c m=some (zbo c m):=by
 unfold qcm zbo
 simp -zeta only[k_or,za7,zj6,zk7,znw,za1i,z8v,zzm]
 dsimp only
 simp only[zc3]
def zdf:Nat→List Move→Int→Custody→(Custody⊕(Int×Int))
 |_,[],_,c=>.inl c
 |i,x::l,item,c=>bif x.Item==item then (bif (zbo c x).2==0 then zdf (i+1) l item (zbo c x).1 else .inr ((i:Int),(zbo c x).2)) else zdf (i+1) l item c
def zee (branch:Int) (l:List Move) (item:Int):Custody×Int×Int:=
 bif decide (branch<1)||decide (4<branch) then (⟨0,0,0,0⟩,-1,1)
 else match zdf 0 l item (zvm branch) with
  |.inl c=>(c,-1,0)
  |.inr (i,e)=>(⟨0,0,0,0⟩,i,e)
theorem zv1 {β:Type} (item:Int) (fin:Custody→β) (out:Int×Int→β):∀(l:List Move) (i:Nat) (c:Custody),
 zcz (fun i x c=>bif x.Item==item then (bif (zbo c x).2==0 then .inl (zbo c x).1 else .inr (out ((i:Int),(zbo c x).2))) else .inl c) fin i l c=(match zdf i l item c with | .inl c=>fin c | .inr p=>out p):=by
 intro l
 induction l with
 |nil=>intros;rfl
 |cons x l ih=>
  intro i c
  simp only[zcz,zdf]
  cases x.Item==item with
  |false=>exact ih _ _
  |true=>
   simp only[cond_true]
   cases (zbo c x).2==0 with
   |true=>exact ih _ _
   |false=>rfl
theorem za1h {branch:Int} {l:List Move} {item:Int} (hl:l.length<1000000000):qao branch l item=some (zee branch l item):=by
 unfold qao zee
 simp -zeta only[k_or,zalq]
 dsimp only
 have h:=zcs (step:=znl) (fun i c=>(l,item,(i:Int),(⟨0,0,0,0⟩:Custody),c,())) l
  (fun i x c=>bif x.Item==item then (bif (zbo c x).2==0 then .inl (zbo c x).1 else .inr (.inr ((i:Int),(zbo c x).2,(⟨0,0,0,0⟩:Custody),()))) else .inl c)
  (fun c=>.inl (⟨0,0,0,0⟩,c,())) (by show l.length<18446744073709551616;omega) (fun c=>by simp only[znl,dge,cond_false])
  (fun i x c hx=>by
   have hi:=(List.getElem?_eq_some_iff.1 hx).1
   simp only[znl,dlt hi,zah,hx,cond_true,zall,zam (show i<9223372036854775807 by omega)]
   cases x.Item==item with
   |false=>rfl
   |true=>
    simp only[Bool.not_true,cond_false,cond_true]
    obtain ⟨d,e⟩:=zbo c x
    cases he:e==0 with
    |true=>rfl
    |false=>rfl) (zvm branch)
 rw[zv1 item (fun c=>(.inl (⟨0,0,0,0⟩,c,()):(Custody×Custody×Unit)⊕(Int×Int×Custody×Unit))) (fun p=>.inr (p.1,p.2,(⟨0,0,0,0⟩:Custody),()))]at h
 rw[show zad znl (l,item,0,(⟨0,0,0,0⟩:Custody),zvm branch,())=_ from h]
 cases (decide (branch<1)||decide (4<branch)) with
 |true=>rfl
 |false=>
  simp only[cond_false]
  cases zdf 0 l item (zvm branch) with
  |inl c=>rfl
  |inr p=>rfl
end Go.Proofs.YtdahfgialanmpaaGreatDoor
namespace Go.Proofs.YtdahfgialanmpaaGreatDoor
open Ev
open Go (IntKind)
theorem za6 {X:Type} (p:X→Bool) (l:List X):(fIdx p l = -1∧l.find? p=none)∨∃(i:Nat) (x:X),fIdx p l=(i:Int)∧l[i]?=some x∧p x=true∧l.find? p=some x:=by
 unfold fIdx
 induction l with
 |nil=>exact .inl ⟨rfl,rfl⟩
 |cons y l ih=>
  simp only[List.findIdx?_cons,List.find?_cons]
  cases hp:p y with
  |true=>exact .inr ⟨0,y,rfl,rfl,hp,rfl⟩
  |false=>
   simp only[Bool.false_eq_true,if_false]
   rcases ih with ⟨h1,h2⟩|⟨i,x,h1,h2,h3,h4⟩
   ·left
    refine ⟨?_,h2⟩
    cases hf:l.findIdx? p with
    |none=>rfl
    |some k=>rw[hf]at h1;simp only at h1;omega
   ·right
    refine ⟨i+1,x,?_,by simpa using h2,h3,h4⟩
    cases hf:l.findIdx? p with
    |none=>rw[hf]at h1;simp only at h1;omega
    |some k=>rw[hf]at h1;simp only[Option.map_some]at h1 ⊢;omega
theorem zg6:decide ((-1:Int)<0)=true:=rfl
theorem zg5 {i:Nat}:decide ((i:Int)<0)=false:=by rw[decide_eq_false_iff_not];omega
def getP (l:List Patron) (id:Int):Patron×Bool:=match l.find? (fun p=>p.ID==id) with|some p=>(p,true)|none=>(⟨0,0,0,0,false,[]⟩,false)
def zuu (l:List Loan) (item:Int):Loan×Bool:=match l.find? (fun n=>n.Item==item) with|some n=>(n,true)|none=>(⟨0,0,0,0,0,false⟩,false)
def zhi:Hold:=⟨0,0,0,0,0,0,0,0,0,0,0⟩
def zcx (c:Circ) (item:Int):Hold×Bool:=match c.Holds.find? (fun h=>h.Got==item) with|some h=>(h,true)|none=>(zhi,false)
theorem zaui {c:Circ} {item:Int} (hl:c.Items.length<1000000000):qk c item=some (fIdx (fun x=>x.ID==item) c.Items):=by
 unfold qk
 have h:=zbm (step:=z19) (fun i=>(item,(i:Int),c,())) c.Items (fun x=>x.ID==item) (fun i _=>(.inr ((i:Int),()):Unit⊕(Int×Unit))) (.inl ()) hl
  (by simp only[z19,dge,cond_false])
  (fun i x hx=>by
   have hi:=(List.getElem?_eq_some_iff.1 hx).1
   simp only[z19,dlt hi,zah,hx,cond_true,zam (show i<9223372036854775807 by omega)])
 rw[show zad z19 (item,0,c,())=_ from h,←zdc]
 have:=zce (p:=fun x:Item=>x.ID==item) (g:=fun i _=>(.inr ((i:Int),()):Unit⊕(Int×Unit))) (d:=.inl ()) (fun z=>match (some z:Option (Unit⊕(Int×Unit))) with|some (.inl _)=>some (-1)|some (.inr (v,_))=>some v|none=>none) (l:=c.Items) (i:=0)
 exact this.trans ((zce (p:=fun x:Item=>x.ID==item) (g:=fun i _=>(i:Int)) (d:=-1) (fun z=>some z) (l:=c.Items) (i:=0)).symm)
theorem zp1 {c:Circ} {item:Int} (hl:c.Items.length<1000000000):(qk c item=some (-1)∧c.Items.find? (fun x=>x.ID==item)=none)∨
 ∃(i:Nat) (x:Item),qk c item=some (i:Int)∧c.Items[i]?=some x∧x.ID=item∧c.Items.find? (fun x=>x.ID==item)=some x:=by
 rw[zaui hl]
 rcases za6 (fun x:Item=>x.ID==item) c.Items with ⟨h1,h2⟩|⟨i,x,h1,h2,h3,h4⟩
 ·exact .inl ⟨by rw[h1],h2⟩
 ·exact .inr ⟨i,x,by rw[h1],h2,by simpa using h3,h4⟩
theorem za09 {l:List Patron} {id:Int} (hl:l.length<1000000000):qa1 l id=some (fIdx (fun x=>x.ID==id) l):=by
 unfold qa1
 have h:=zbm (step:=znf) (fun i=>(l,id,(i:Int),())) l (fun x=>x.ID==id) (fun i _=>(.inr ((i:Int),()):Unit⊕(Int×Unit))) (.inl ()) hl
  (by simp only[znf,dge,cond_false])
  (fun i x hx=>by
   have hi:=(List.getElem?_eq_some_iff.1 hx).1
   simp only[znf,dlt hi,zah,hx,cond_true,zam (show i<9223372036854775807 by omega)])
 rw[show zad znf (l,id,0,())=_ from h,←zdc]
 have:=zce (p:=fun x:Patron=>x.ID==id) (g:=fun i _=>(.inr ((i:Int),()):Unit⊕(Int×Unit))) (d:=.inl ()) (fun z=>match (some z:Option (Unit⊕(Int×Unit))) with|some (.inl _)=>some (-1)|some (.inr (v,_))=>some v|none=>none) (l:=l) (i:=0)
 exact this.trans ((zce (p:=fun x:Patron=>x.ID==id) (g:=fun i _=>(i:Int)) (d:=-1) (fun z=>some z) (l:=l) (i:=0)).symm)
theorem zf5 {l:List Patron} {id:Int} (hl:l.length<1000000000):qb2 l id=some (getP l id):=by
 unfold qb2 getP
 rw[za09 hl]
 rcases za6 (fun x:Patron=>x.ID==id) l with ⟨h1,h2⟩|⟨i,x,h1,h2,h3,h4⟩
 ·simp only[h1,h2,zg6,cond_true]
 ·simp only[h1,h4,zg5,cond_false,zah,h2]
theorem zak3 {l:List Loan} {id:Int} (hl:l.length<1000000000):qag l id=some (fIdx (fun x=>x.Item==id) l):=by
 unfold qag
 have h:=zbm (step:=zni) (fun i=>(l,id,(i:Int),())) l (fun x=>x.Item==id) (fun i _=>(.inr ((i:Int),()):Unit⊕(Int×Unit))) (.inl ()) hl
  (by simp only[zni,dge,cond_false])
  (fun i x hx=>by
   have hi:=(List.getElem?_eq_some_iff.1 hx).1
   simp only[zni,dlt hi,zah,hx,cond_true,zam (show i<9223372036854775807 by omega)])
 rw[show zad zni (l,id,0,())=_ from h,←zdc]
 have:=zce (p:=fun x:Loan=>x.Item==id) (g:=fun i _=>(.inr ((i:Int),()):Unit⊕(Int×Unit))) (d:=.inl ()) (fun z=>match (some z:Option (Unit⊕(Int×Unit))) with|some (.inl _)=>some (-1)|some (.inr (v,_))=>some v|none=>none) (l:=l) (i:=0)
 exact this.trans ((zce (p:=fun x:Loan=>x.Item==id) (g:=fun i _=>(i:Int)) (d:=-1) (fun z=>some z) (l:=l) (i:=0)).symm)
theorem za17 {l:List Loan} {id:Int} (hl:l.length<1000000000):qdz l id=some (zuu l id):=by
 unfold qdz zuu
 rw[zak3 hl]
 rcases za6 (fun x:Loan=>x.Item==id) l with ⟨h1,h2⟩|⟨i,x,h1,h2,h3,h4⟩
 ·simp only[h1,h2,zg6,cond_true]
 ·simp only[h1,h4,zg5,cond_false,zah,h2]
theorem zak6 {c:Circ} {item:Int} (hl:c.Holds.length<1000000000):qal c item=some (zcx c item):=by
 unfold qal zcx
 have h:=zbm (step:=znj) (fun i=>(item,(i:Int),c,zhi,())) c.Holds (fun x=>x.Got==item) (fun _ x=>(.inr (true,x,()):(Hold×Unit)⊕(Bool×Hold×Unit))) (.inl (zhi,())) hl
  (by simp only[znj,dge,cond_false])
  (fun i x hx=>by
   have hi:=(List.getElem?_eq_some_iff.1 hx).1
   simp only[znj,dlt hi,zah,hx,cond_true,zam (show i<9223372036854775807 by omega)])
 rw[show zad znj (item,0,c,(⟨0,0,0,0,0,0,0,0,0,0,0⟩:Hold),())=_ from h,zmx]
 cases c.Holds.find? (fun x=>x.Got==item)<;>rfl
def zd0 (c:Circ) (i:Nat) (x:Item):Bool:=
 !(decide (x.ID<1)||decide (9999<x.ID)||zb5 c.Items i (fun y=>decide (x.ID≤y.ID))||decide (x.Record<1)||decide (9999<x.Record)||decide (x.Branch<1)||decide (4<x.Branch))&&
 !(decide (x.Kind<1)||decide (9<x.Kind)||decide (x.Price<0)||decide (100000000<x.Price)||decide (200<(x.Call.length:Int))||!(vld x.Call))&&
 !(!((zee x.Branch c.Moves x.ID).2.2==0)||!(zbf (zee x.Branch c.Moves x.ID).1 x.Custody))
def ze8 (c:Circ):Bool:=!(decide (64<(c.Items.length:Int))||decide (2000<(c.Moves.length:Int)))&&(zc2 (zd0 c) 0 c.Items&&c.Moves.all (fun m=>(c.Items.find? (fun x=>x.ID==m.Item)).isSome))
structure Short (c:Circ):Prop where
 items:c.Items.length<1000000000
 patrons:c.Patrons.length<1000000000
 loans:c.Loans.length<1000000000
 holds:c.Holds.length<1000000000
 charges:c.Charges.length<1000000000
 rules:c.Rules.length<1000000000
 moves:c.Moves.length<1000000000
 call:∀x∈c.Items,x.Call.length<10000000
 name:∀x∈c.Patrons,x.Name.length<10000000
 cal0:c.Cals.x0.Closed.length<1000000000
 cal1:c.Cals.x1.Closed.length<1000000000
 cal2:c.Cals.x2.Closed.length<1000000000
 cal3:c.Cals.x3.Closed.length<1000000000
theorem z1z {c:Circ} (hs:Short c):zad zkt (0,c,())=some (bif zc2 (zd0 c) 0 c.Items then .inl (c,()) else .inr (false,())):=by
 have h:=zav (step:=zkt) (fun i=>((i:Int),c,())) c.Items (zd0 c) (.inr (false,())) (.inl (c,())) hs.items
  (by simp only[zkt,dge,cond_false])
  (fun i x hx=>by
   have hi:=(List.getElem?_eq_some_iff.1 hx).1
   have hm:=List.mem_of_getElem? hx
   have hv:=zak8 (s:=x.Call) (by have:=hs.call x hm;omega)
   have hr:=za1h (branch:=x.Branch) (item:=x.ID) hs.moves
   unfold zd0
   rcases i with _|j
   ·simp -zeta only[zkt,dlt hi,zah,hx,k_or,za7,z0q,cond_false,cond_true,zb5,zam (show 0<9223372036854775807 by omega),hv,hr]
    dsimp only
    generalize (decide (x.ID<1)||decide (9999<x.ID)||false||decide (x.Record<1)||decide (9999<x.Record)||decide (x.Branch<1)||decide (4<x.Branch))=b1
    generalize (decide (x.Kind<1)||decide (9<x.Kind)||decide (x.Price<0)||decide (100000000<x.Price)||decide (200<(x.Call.length:Int))||!(vld x.Call))=b2
    generalize (!((zee x.Branch c.Moves x.ID).2.2==0)||!(zbf (zee x.Branch c.Moves x.ID).1 x.Custody))=b3
    cases b1<;>cases b2<;>cases b3<;>rfl
   ·have hj:c.Items[j]?=some c.Items[j]:=List.getElem?_eq_getElem (by omega)
    have:=hs.items
    simp -zeta only[zkt,dlt hi,zah,hx,k_or,za7,dpos,zgb (show j<1000000000 by omega),hj,cond_false,cond_true,Bool.true_and,zb5,zam (show j+1<9223372036854775807 by omega),hv,hr]
    dsimp only
    generalize (decide (x.ID<1)||decide (9999<x.ID)||decide (x.ID≤c.Items[j].ID)||decide (x.Record<1)||decide (9999<x.Record)||decide (x.Branch<1)||decide (4<x.Branch))=b1
    generalize (decide (x.Kind<1)||decide (9<x.Kind)||decide (x.Price<0)||decide (100000000<x.Price)||decide (200<(x.Call.length:Int))||!(vld x.Call))=b2
    generalize (!((zee x.Branch c.Moves x.ID).2.2==0)||!(zbf (zee x.Branch c.Moves x.ID).1 x.Custody))=b3
    cases b1<;>cases b2<;>cases b3<;>rfl)
 exact h
theorem zvb {c:Circ} (hs:Short c):zad zgt (0,c,())=some (bif c.Moves.all (fun m=>(c.Items.find? (fun x=>x.ID==m.Item)).isSome) then .inl () else .inr (false,())):=by
 have h:=zav (step:=zgt) (fun i=>((i:Int),c,())) c.Moves (fun _ m=>(c.Items.find? (fun x=>x.ID==m.Item)).isSome) (.inr (false,())) (.inl ()) hs.moves
  (by simp only[zgt,dge,cond_false])
  (fun i x hx=>by
   have hi:=(List.getElem?_eq_some_iff.1 hx).1
   have:=hs.moves
   simp only[zgt,dlt hi,zah,hx,cond_true,zam (show i<9223372036854775807 by omega)]
   rcases zp1 (item:=x.Item) hs.items with ⟨h1,h2⟩|⟨k,y,h1,h2,h3,h4⟩
   ·simp only[h1,h2,zg6,cond_true,Option.isSome_none,cond_false]
   ·simp only[h1,h4,zg5,cond_false,Option.isSome_some,cond_true])
 rw[show zad zgt (0,c,())=_ from h,zaz]
theorem za1e {c:Circ} (hs:Short c):qad c=some (ze8 c):=by
 unfold qad ze8
 simp -zeta only[k_or]
 dsimp only
 rw[z1z hs]
 cases (decide (64<(c.Items.length:Int))||decide (2000<(c.Moves.length:Int))) with
 |true=>rfl
 |false=>
  cases zc2 (zd0 c) 0 c.Items with
  |false=>rfl
  |true=>
   simp only[cond_false,cond_true,zvb hs]
   cases c.Moves.all (fun m=>(c.Items.find? (fun x=>x.ID==m.Item)).isSome)<;>rfl
def zhh (c:Circ) (n:Loan):Bool:=match c.Items.find? (fun x=>x.ID==n.Item) with
 |some x=>!(!(getP c.Patrons n.Patron).2||!(zte x.Custody)||!(x.Custody.Who==n.Patron))
 |none=>false
def zf0 (c:Circ):Bool:=c.Loans.all (zhh c)&&c.Items.all (fun x=>(zuu c.Loans x.ID).2==zte x.Custody)
theorem za1d {c:Circ} (hs:Short c):qac c=some (zf0 c):=by
 have h1:=zav (step:=zks) (fun i=>((i:Int),c,())) c.Loans (fun _=>zhh c) (.inr (false,())) (.inl (c,())) hs.loans
  (by simp only[zks,dge,cond_false])
  (fun i x hx=>by
   have hi:=(List.getElem?_eq_some_iff.1 hx).1
   have:=hs.loans
   unfold zhh
   rcases zp1 (item:=x.Item) hs.items with ⟨h1,h2⟩|⟨k,y,h1,h2,h3,h4⟩
   ·simp -zeta only[zks,dlt hi,zah,hx,cond_true,k_or,zf5 hs.patrons,h1,h2,zg6,Bool.true_or]
    try rfl
   ·simp -zeta only[zks,dlt hi,zah,hx,cond_true,k_or,zf5 hs.patrons,h1,h2,h4,zg5,Bool.false_or,zals,zam (show i<9223372036854775807 by omega)]
    dsimp only
    cases (!(getP c.Patrons x.Patron).2||!(zte y.Custody)||!(y.Custody.Who==x.Patron))<;>rfl)
 have h2:=zav (step:=zh4) (fun i=>((i:Int),c,())) c.Items (fun _ x=>(zuu c.Loans x.ID).2==zte x.Custody) (.inr (false,())) (.inl ()) hs.items
  (by simp only[zh4,dge,cond_false])
  (fun i x hx=>by
   have hi:=(List.getElem?_eq_some_iff.1 hx).1
   have:=hs.items
   simp only[zh4,dlt hi,zah,hx,cond_true,za17 hs.loans,zals,zam (show i<9223372036854775807 by omega)]
   cases (zuu c.Loans x.ID).2==zte x.Custody<;>rfl)
 unfold qac zf0
 rw[show zad zks (0,c,())=_ from h1,zaz]
 cases c.Loans.all (zhh c) with
 |false=>rfl
 |true=>
  simp only[cond_true]
  rw[show zad zh4 (0,c,())=_ from h2,zaz]
  cases c.Items.all (fun x=>(zuu c.Loans x.ID).2==zte x.Custody)<;>rfl
def zhc (c:Circ) (h:Hold):Bool:=
 !(!(getP c.Patrons h.Patron).2||decide (c.NextHold≤h.ID))&&(h.State==1||(match c.Items.find? (fun x=>x.ID==h.Got) with
  |some x=>!(!(x.Record==h.Record))&&!(h.State==3&&(!(x.Custody.State==5)||!(x.Custody.Branch==h.Pickup)||!(x.Custody.Who==h.Patron)))&&
   !(h.State==2&&(!(x.Custody.State==6)||!(x.Custody.To==h.Pickup)||!(x.Custody.Who==h.Patron)))
  |none=>false))
def zf7 (c:Circ) (x:Item):Bool:=!(x.Custody.State==5)||!(!(zcx c x.ID).2||!((zcx c x.ID).1.State==3))
def zfx (c:Circ):Bool:=c.Holds.all (zhc c)&&c.Items.all (zf7 c)
theorem za1f {c:Circ} (hs:Short c):qae c=some (zfx c):=by
 have h1:=zav (step:=zku) (fun i=>((i:Int),c,())) c.Holds (fun _=>zhc c) (.inr (false,())) (.inl (c,())) hs.holds
  (by simp only[zku,dge,cond_false])
  (fun i x hx=>by
   have hi:=(List.getElem?_eq_some_iff.1 hx).1
   have:=hs.holds
   unfold zhc
   rcases zp1 (item:=x.Got) hs.items with ⟨h1,h2⟩|⟨k,y,h1,h2,h3,h4⟩
   ·simp -zeta only[zku,dlt hi,zah,hx,cond_true,k_or,zf5 hs.patrons,h1,h2,zg6,zam (show i<9223372036854775807 by omega)]
    dsimp only
    cases (!(getP c.Patrons x.Patron).2||decide (c.NextHold≤x.ID)) with
    |true=>rfl
    |false=>cases x.State==1<;>rfl
   ·simp -zeta only[zku,dlt hi,zah,hx,cond_true,k_or,za7,zf5 hs.patrons,h1,h2,h4,zg5,cond_false,zam (show i<9223372036854775807 by omega)]
    dsimp only
    generalize (!(getP c.Patrons x.Patron).2||decide (c.NextHold≤x.ID))=b1
    generalize (x.State==1)=b2
    generalize (!(y.Record==x.Record))=b3
    generalize (!(y.Custody.State==5)||!(y.Custody.Branch==x.Pickup)||!(y.Custody.Who==x.Patron))=b4
    generalize (!(y.Custody.State==6)||!(y.Custody.To==x.Pickup)||!(y.Custody.Who==x.Patron))=b5
    generalize (x.State==3)=b6
    generalize (x.State==2)=b7
    cases b1<;>cases b2<;>cases b3<;>cases b4<;>cases b5<;>cases b6<;>cases b7<;>rfl)
 have h2:=zav (step:=zh5) (fun i=>((i:Int),c,())) c.Items (fun _=>zf7 c) (.inr (false,())) (.inl ()) hs.items
  (by simp only[zh5,dge,cond_false])
  (fun i x hx=>by
   have hi:=(List.getElem?_eq_some_iff.1 hx).1
   have:=hs.items
   unfold zf7
   simp -zeta only[zh5,dlt hi,zah,hx,cond_true,k_or,zak6 hs.holds,zam (show i<9223372036854775807 by omega)]
   dsimp only
   cases x.Custody.State==5 with
   |false=>rfl
   |true=>
    generalize (!(zcx c x.ID).2||!((zcx c x.ID).1.State==3))=b
    cases b<;>rfl)
 unfold qae zfx
 rw[show zad zku (0,c,())=_ from h1,zaz]
 cases c.Holds.all (zhc c) with
 |false=>rfl
 |true=>
  simp only[cond_true]
  rw[show zad zh5 (0,c,())=_ from h2,zaz]
  cases c.Items.all (zf7 c)<;>rfl
end Go.Proofs.YtdahfgialanmpaaGreatDoor
namespace Go.Proofs.YtdahfgialanmpaaGreatDoor
open Ev
open Go (IntKind)
def zg3 (c:Circ):Bool:=zcm c.Cals.x0==0&&(zcm c.Cals.x1==0&&(zcm c.Cals.x2==0&&zcm c.Cals.x3==0))
theorem z10 {c:Circ} (hs:Short c):zad zie (0,c,())=some (bif zg3 c then .inl (c,()) else .inr (false,())):=by
 have s0:zie (0,c,())=bif zcm c.Cals.x0==0 then some (.inl (1,c,())) else some (.inr (.inr (false,()))):=by
  show (match qy c.Cals.x0 with|some r=>(bif !(r==0) then (some (.inr (.inr (false,()))):Option ((Int×Circ×Unit)⊕((Circ×Unit)⊕(Bool×Unit)))) else some (.inl (1,c,())))|none=>none)=_
  rw[zag0 hs.cal0];dsimp only;cases zcm c.Cals.x0==0<;>rfl
 have s1:zie (1,c,())=bif zcm c.Cals.x1==0 then some (.inl (2,c,())) else some (.inr (.inr (false,()))):=by
  show (match qy c.Cals.x1 with|some r=>(bif !(r==0) then (some (.inr (.inr (false,()))):Option ((Int×Circ×Unit)⊕((Circ×Unit)⊕(Bool×Unit)))) else some (.inl (2,c,())))|none=>none)=_
  rw[zag0 hs.cal1];dsimp only;cases zcm c.Cals.x1==0<;>rfl
 have s2:zie (2,c,())=bif zcm c.Cals.x2==0 then some (.inl (3,c,())) else some (.inr (.inr (false,()))):=by
  show (match qy c.Cals.x2 with|some r=>(bif !(r==0) then (some (.inr (.inr (false,()))):Option ((Int×Circ×Unit)⊕((Circ×Unit)⊕(Bool×Unit)))) else some (.inl (3,c,())))|none=>none)=_
  rw[zag0 hs.cal2];dsimp only;cases zcm c.Cals.x2==0<;>rfl
 have s3:zie (3,c,())=bif zcm c.Cals.x3==0 then some (.inl (4,c,())) else some (.inr (.inr (false,()))):=by
  show (match qy c.Cals.x3 with|some r=>(bif !(r==0) then (some (.inr (.inr (false,()))):Option ((Int×Circ×Unit)⊕((Circ×Unit)⊕(Bool×Unit)))) else some (.inl (4,c,())))|none=>none)=_
  rw[zag0 hs.cal3];dsimp only;cases zcm c.Cals.x3==0<;>rfl
 have s4:zie (4,c,())=some (.inr (.inl (c,()))):=rfl
 refine zba 5 (by rw[za2];omega) ?_
 unfold zg3
 simp only[za8,s0,s1,s2,s3,s4]
 cases zcm c.Cals.x0==0 with
 |false=>rfl
 |true=>
  simp only[cond_true,za8,s1]
  cases zcm c.Cals.x1==0 with
  |false=>rfl
  |true=>
   simp only[cond_true,za8,s2]
   cases zcm c.Cals.x2==0 with
   |false=>rfl
   |true=>
    simp only[cond_true,za8,s3]
    cases zcm c.Cals.x3==0 with
    |false=>rfl
    |true=>simp only[cond_true,za8,s4];rfl
def ze3 (c:Circ) (x:Charge):Bool:=!(!(getP c.Patrons x.Patron).2||decide (c.NextCharge≤x.ID))
theorem zvc {c:Circ} (hs:Short c):zad zgu (0,c,())=some (bif c.Charges.all (ze3 c) then .inl (c,()) else .inr (false,())):=by
 have h:=zav (step:=zgu) (fun i=>((i:Int),c,())) c.Charges (fun _=>ze3 c) (.inr (false,())) (.inl (c,())) hs.charges
  (by simp only[zgu,dge,cond_false])
  (fun i x hx=>by
   have hi:=(List.getElem?_eq_some_iff.1 hx).1
   have:=hs.charges
   unfold ze3
   simp -zeta only[zgu,dlt hi,zah,hx,cond_true,k_or,zf5 hs.patrons,zam (show i<9223372036854775807 by omega)]
   dsimp only
   cases (!(getP c.Patrons x.Patron).2||decide (c.NextCharge≤x.ID))<;>rfl)
 rw[show zad zgu (0,c,())=_ from h,zaz]
def zpw (c:Circ):Bool:=!(decide (c.Today<0)||decide (109572<c.Today)||decide (c.NextHold<1)||decide (100000<c.NextHold)||decide (c.NextCharge<1)||decide (100000<c.NextCharge))
def zj8 (c:Circ):Bool:=!(!(zfb c.Patrons==0)||!(zbn c.Loans==0)||!(zdz c.Holds==0)||!(zch c.Charges==0)||!(zgg c.Rules==0))
def zn0 (c:Circ):Bool:=zpw c&&(zj8 c&&(zg3 c&&(c.Charges.all (ze3 c)&&(ze8 c&&(zf0 c&&zfx c)))))
theorem za1g {c:Circ} (hs:Short c):qaj c=some (zn0 c):=by
 unfold qaj zn0 zpw zj8
 simp -zeta only[k_or,za7,za1j hs.patrons hs.name,zak7 hs.loans,za34 hs.holds,za1a hs.charges,za33 hs.rules]
 dsimp only
 rw[z10 hs]
 generalize (decide (c.Today<0)||decide (109572<c.Today)||decide (c.NextHold<1)||decide (100000<c.NextHold)||decide (c.NextCharge<1)||decide (100000<c.NextCharge))=b1
 generalize (!(zfb c.Patrons==0)||!(zbn c.Loans==0)||!(zdz c.Holds==0)||!(zch c.Charges==0)||!(zgg c.Rules==0))=b2
 cases b1 with
 |true=>rfl
 |false=>
  cases b2 with
  |true=>rfl
  |false=>
   cases zg3 c with
   |false=>rfl
   |true=>
    simp only[cond_false,cond_true,zvc hs]
    cases c.Charges.all (ze3 c) with
    |false=>rfl
    |true=>
     simp -zeta only[cond_false,cond_true,za1e hs,za1d hs,za1f hs,za7]
     try dsimp only
     cases ze8 c<;>cases zf0 c<;>cases zfx c<;>rfl
def zlq (c:Circ):Bool:=
 !(decide (10<(c.Items.length:Int))||decide (8<(c.Patrons.length:Int))||decide (12<(c.Holds.length:Int))||decide (12<(c.Loans.length:Int))||decide (30<(c.Charges.length:Int))||decide (10<(c.Rules.length:Int))||decide (200<(c.Moves.length:Int)))&&
 (c.Items.all (fun x=>!(decide (300<(x.Call.length:Int))))&&(c.Patrons.all (fun x=>!(decide (300<(x.Name.length:Int))))&&
  (!(decide (20<(c.Cals.x0.Closed.length:Int)))&&(!(decide (20<(c.Cals.x1.Closed.length:Int)))&&(!(decide (20<(c.Cals.x2.Closed.length:Int)))&&!(decide (20<(c.Cals.x3.Closed.length:Int))))))))
theorem za30 (c:Circ):qa c=some (zlq c):=by
 unfold qa zlq
 simp -zeta only[k_or,za7]
 dsimp only
 cases hb:(decide (10<(c.Items.length:Int))||decide (8<(c.Patrons.length:Int))||decide (12<(c.Holds.length:Int))||decide (12<(c.Loans.length:Int))||decide (30<(c.Charges.length:Int))||decide (10<(c.Rules.length:Int))||decide (200<(c.Moves.length:Int))) with
 |true=>rfl
 |false=>
  simp only[Bool.or_eq_false_iff,decide_eq_false_iff_not]at hb
  have h1:=zav (step:=z1x) (fun i=>((i:Int),c,())) c.Items (fun _ x=>!(decide (300<(x.Call.length:Int)))) (.inr (false,())) (.inl (c,())) (by omega)
   (by simp only[z1x,dge,cond_false])
   (fun i x hx=>by
    have hi:=(List.getElem?_eq_some_iff.1 hx).1
    simp only[z1x,dlt hi,zah,hx,cond_true,zam (show i<9223372036854775807 by omega)]
    cases decide (300<(x.Call.length:Int))<;>rfl)
  have h2:=zav (step:=z1y) (fun i=>((i:Int),c,())) c.Patrons (fun _ x=>!(decide (300<(x.Name.length:Int)))) (.inr (false,())) (.inl (c,())) (by omega)
   (by simp only[z1y,dge,cond_false])
   (fun i x hx=>by
    have hi:=(List.getElem?_eq_some_iff.1 hx).1
    simp only[z1y,dlt hi,zah,hx,cond_true,zam (show i<9223372036854775807 by omega)]
    cases decide (300<(x.Name.length:Int))<;>rfl)
  have h3:zad zid (0,c,())=some (bif (!(decide (20<(c.Cals.x0.Closed.length:Int)))&&(!(decide (20<(c.Cals.x1.Closed.length:Int)))&&(!(decide (20<(c.Cals.x2.Closed.length:Int)))&&!(decide (20<(c.Cals.x3.Closed.length:Int)))))) then .inl () else .inr (false,())):=by
   have s0:zid (0,c,())=bif decide (20<(c.Cals.x0.Closed.length:Int)) then some (.inr (.inr (false,()))) else some (.inl (1,c,())):=rfl
   have s1:zid (1,c,())=bif decide (20<(c.Cals.x1.Closed.length:Int)) then some (.inr (.inr (false,()))) else some (.inl (2,c,())):=rfl
   have s2:zid (2,c,())=bif decide (20<(c.Cals.x2.Closed.length:Int)) then some (.inr (.inr (false,()))) else some (.inl (3,c,())):=rfl
   have s3:zid (3,c,())=bif decide (20<(c.Cals.x3.Closed.length:Int)) then some (.inr (.inr (false,()))) else some (.inl (4,c,())):=rfl
   have s4:zid (4,c,())=some (.inr (.inl ())):=rfl
   refine zba 5 (by rw[za2];omega) ?_
   simp only[za8,s0]
   cases decide (20<(c.Cals.x0.Closed.length:Int)) with
   |true=>rfl
   |false=>
    simp only[cond_false,za8,s1]
    cases decide (20<(c.Cals.x1.Closed.length:Int)) with
    |true=>rfl
    |false=>
     simp only[cond_false,za8,s2]
     cases decide (20<(c.Cals.x2.Closed.length:Int)) with
     |true=>rfl
     |false=>
      simp only[cond_false,za8,s3]
      cases decide (20<(c.Cals.x3.Closed.length:Int)) with
      |true=>rfl
      |false=>simp only[cond_false,za8,s4];rfl
  simp only[cond_false,Bool.not_false,Bool.true_and]
  rw[show zad z1x (0,c,())=_ from h1,zaz]
  cases c.Items.all (fun x=>!(decide (300<(x.Call.length:Int)))) with
  |false=>rfl
  |true=>
   simp only[cond_true,Bool.true_and]
   rw[show zad z1y (0,c,())=_ from h2,zaz]
   cases c.Patrons.all (fun x=>!(decide (300<(x.Name.length:Int)))) with
   |false=>rfl
   |true=>
    simp only[cond_true,Bool.true_and,h3]
    cases (!(decide (20<(c.Cals.x0.Closed.length:Int)))&&(!(decide (20<(c.Cals.x1.Closed.length:Int)))&&(!(decide (20<(c.Cals.x2.Closed.length:Int)))&&!(decide (20<(c.Cals.x3.Closed.length:Int))))))<;>rfl
structure SmallP (c:Circ):Prop where
 items:c.Items.length≤10
 patrons:c.Patrons.length≤8
 holds:c.Holds.length≤12
 loans:c.Loans.length≤12
 charges:c.Charges.length≤30
 rules:c.Rules.length≤10
 moves:c.Moves.length≤200
 call:∀x∈c.Items,x.Call.length≤300
 name:∀x∈c.Patrons,x.Name.length≤300
 cal0:c.Cals.x0.Closed.length≤20
 cal1:c.Cals.x1.Closed.length≤20
 cal2:c.Cals.x2.Closed.length≤20
 cal3:c.Cals.x3.Closed.length≤20
theorem zamz {c:Circ} (h:zlq c=true):SmallP c:=by
 unfold zlq at h
 simp only[Bool.and_eq_true,Bool.not_eq_true',Bool.or_eq_false_iff,decide_eq_false_iff_not,List.all_eq_true]at h
 obtain ⟨⟨⟨⟨⟨⟨⟨h1,h2⟩,h3⟩,h4⟩,h5⟩,h6⟩,h7⟩,h8,h9,h10,h11,h12,h13⟩:=h
 exact ⟨by omega,by omega,by omega,by omega,by omega,by omega,by omega,fun x hx=>by have:=h8 x hx;omega,fun x hx=>by have:=h9 x hx;omega,by omega,by omega,by omega,by omega⟩
theorem SmallP.short {c:Circ} (h:SmallP c):Short c:=by
 obtain ⟨h1,h2,h3,h4,h5,h6,h7,h8,h9,h10,h11,h12,h13⟩:=h
 exact ⟨by omega,by omega,by omega,by omega,by omega,by omega,by omega,fun x hx=>by have:=h8 x hx;omega,fun x hx=>by have:=h9 x hx;omega,by omega,by omega,by omega,by omega⟩
theorem za2n (c:Circ):qfx c=some (zlq c&&zn0 c):=by
 unfold qfx
 rw[za30]
 cases h:zlq c with
 |false=>rfl
 |true=>
  simp only[cond_true,za1g (zamz h).short]
  try rfl
end Go.Proofs.YtdahfgialanmpaaGreatDoor
namespace Go.Proofs.YtdahfgialanmpaaGreatDoor
open Ev
open Go (IntKind)
theorem zab7:qfd=some true:=by kernel_rfl
theorem za35 {γ0:Type} {p:γ0→Patron→Option Bool} {q:Patron→Bool} {s:List Patron} {g:γ0} (hs:s.length<1000000000) (hp:∀x∈s,p g x=some (q x)):qn p s g=some (fIdx q s):=by
 have h:=zbm (step:=zvq p) (fun i=>(s,g,(s.length:Int),(i:Int),())) s q (fun i _=>(.inr ((i:Int),()):Unit⊕(Int×Unit))) (.inl ()) hs
  (by simp only[zvq,dge,cond_false])
  (fun i x hx=>by
   have hi:=(List.getElem?_eq_some_iff.1 hx).1
   simp only[zvq,dlt hi,cond_true,zah,hx,hp x (List.mem_of_getElem? hx),zam (show i<9223372036854775807 by omega)])
 unfold qn
 rw[show zad (zvq p) (s,g,(s.length:Int),0,())=_ from h,←zdc]
 have:=zce (p:=q) (g:=fun i _=>(.inr ((i:Int),()):Unit⊕(Int×Unit))) (d:=.inl ()) (fun z=>match (some z:Option (Unit⊕(Int×Unit))) with|some (.inl _)=>some (-1)|some (.inr (v,_))=>some v|none=>none) (l:=s) (i:=0)
 exact this.trans ((zce (p:=q) (g:=fun i _=>(i:Int)) (d:=-1) (fun z=>some z) (l:=s) (i:=0)).symm)
theorem zalm {l:List Patron} {id:Int} (hl:l.length<1000000000):qcr l id=some (getP l id):=by
 unfold qcr qb5 getP
 rw[za35 (q:=fun x=>x.ID==id) hl (fun x _=>rfl)]
 rcases za6 (fun x:Patron=>x.ID==id) l with ⟨h1,h2⟩|⟨i,x,h1,h2,h3,h4⟩
 ·simp only[h1,h2,zg6,cond_true]
 ·simp only[h1,h4,zg5,cond_false,zah,h2]
end Go.Proofs.YtdahfgialanmpaaGreatDoor
namespace Go.Proofs.YtdahfgialanmpaaGreatDoor
open Ev
open Go (IntKind)
theorem zpv (lo hi n:Int):(!(rng lo hi n))=(decide (n<lo)||decide (hi<n)):=by
 unfold rng
 by_cases h1:n<lo
 ·have:¬lo≤n:=by omega
  simp[h1,this]
 ·have:lo≤n:=by omega
  by_cases h2:hi<n
  ·have:¬n≤hi:=by omega
   simp[*]
  ·have:n≤hi:=by omega
   simp[*]
theorem zalw {γ:Type} {p:γ→Loan→Option Bool} {g:γ} (q:Loan→Bool) {l:List Loan} (hl:l.length<1000000000) (hp:∀x∈l,p g x=some (q x)):ql p l g=some (fIdx q l):=by
 have h:=zbm (step:=zvo p) (fun i=>(l,g,(l.length:Int),(i:Int),())) l q (fun i _=>(.inr ((i:Int),()):(Unit)⊕(Int×Unit))) (.inl ()) hl
  (by simp only[zvo,dge,cond_false])
  (fun i x hx=>by
   have hi:=(List.getElem?_eq_some_iff.1 hx).1
   simp only[zvo,dlt hi,zah,hx,cond_true,hp x (List.mem_of_getElem? hx),zam (show i<9223372036854775807 by omega)])
 unfold ql
 rw[show zad (zvo p) (l,g,(l.length:Int),0,())=_ from h]
 have e:=zce (p:=q) (g:=fun i _=>(.inr ((i:Int),()):(Unit)⊕(Int×Unit))) (d:=.inl ()) (fun r:(Unit)⊕(Int×Unit)=>match r with | .inl (_)=>(-1:Int) | .inr (v,_)=>v) (l:=l) (i:=0)
 dsimp only at e
 rw[←zdc,←e]
 generalize zeg q (fun i _=>(.inr ((i:Int),()):(Unit)⊕(Int×Unit))) (.inl ()) 0 l=r
 rcases r with _|⟨v,_⟩<;>rfl
theorem za2a {γ:Type} {p:γ→Item→Option Bool} {g:γ} (q:Item→Bool) {l:List Item} (hl:l.length<1000000000) (hp:∀x∈l,p g x=some (q x)):qe p l g=some (fIdx q l):=by
 have h:=zbm (step:=ztd p) (fun i=>(l,g,(l.length:Int),(i:Int),())) l q (fun i _=>(.inr ((i:Int),()):(Unit)⊕(Int×Unit))) (.inl ()) hl
  (by simp only[ztd,dge,cond_false])
  (fun i x hx=>by
   have hi:=(List.getElem?_eq_some_iff.1 hx).1
   simp only[ztd,dlt hi,zah,hx,cond_true,hp x (List.mem_of_getElem? hx),zam (show i<9223372036854775807 by omega)])
 unfold qe
 rw[show zad (ztd p) (l,g,(l.length:Int),0,())=_ from h]
 have e:=zce (p:=q) (g:=fun i _=>(.inr ((i:Int),()):(Unit)⊕(Int×Unit))) (d:=.inl ()) (fun r:(Unit)⊕(Int×Unit)=>match r with | .inl (_)=>(-1:Int) | .inr (v,_)=>v) (l:=l) (i:=0)
 dsimp only at e
 rw[←zdc,←e]
 generalize zeg q (fun i _=>(.inr ((i:Int),()):(Unit)⊕(Int×Unit))) (.inl ()) 0 l=r
 rcases r with _|⟨v,_⟩<;>rfl
theorem zzk {γ:Type} {p:γ→Hold→Option Bool} {g:γ} (q:Hold→Bool) {l:List Hold} (hl:l.length<1000000000) (hp:∀x∈l,p g x=some (q x)):qb p l g=some (fIdx q l):=by
 have h:=zbm (step:=zmf p) (fun i=>(l,g,(l.length:Int),(i:Int),())) l q (fun i _=>(.inr ((i:Int),()):(Unit)⊕(Int×Unit))) (.inl ()) hl
  (by simp only[zmf,dge,cond_false])
  (fun i x hx=>by
   have hi:=(List.getElem?_eq_some_iff.1 hx).1
   simp only[zmf,dlt hi,zah,hx,cond_true,hp x (List.mem_of_getElem? hx),zam (show i<9223372036854775807 by omega)])
 unfold qb
 rw[show zad (zmf p) (l,g,(l.length:Int),0,())=_ from h]
 have e:=zce (p:=q) (g:=fun i _=>(.inr ((i:Int),()):(Unit)⊕(Int×Unit))) (d:=.inl ()) (fun r:(Unit)⊕(Int×Unit)=>match r with | .inl (_)=>(-1:Int) | .inr (v,_)=>v) (l:=l) (i:=0)
 dsimp only at e
 rw[←zdc,←e]
 generalize zeg q (fun i _=>(.inr ((i:Int),()):(Unit)⊕(Int×Unit))) (.inl ()) 0 l=r
 rcases r with _|⟨v,_⟩<;>rfl
theorem za1p (n lo hi:Int):qb4 n lo hi=some (rng lo hi n):=by
 unfold qb4
 simp -zeta only[k_or,za7]
 try rfl
theorem zalr (n:Int):qe2 n=some (rng 1 9999 n):=by
 unfold qe2
 simp -zeta only[k_or,za7]
 try rfl
theorem zalo (n:Int):qd0 n=some (rng 0 109572 n):=by
 unfold qd0
 simp -zeta only[k_or,za7]
 try rfl
theorem za14 (n:Int):qda n=some (rng 0 109572 n):=by
 unfold qda
 simp -zeta only[k_or,za7]
 try rfl
theorem z14 {l:List Loan} (hl:l.length<1000000000):zad zky (l,l,(l.length:Int),0,())=some (if zb4 (zed l) 0 l==0 then .inl () else .inr (zb4 (zed l) 0 l,())):=by
 have h:=zd3 (step:=zky) (fun i=>(l,l,(l.length:Int),(i:Int),())) l (zed l) (.inl ()) (fun e=>.inr (e,())) hl
  (by simp only[zky,dge,cond_false])
  (fun i x hx=>by
   have hi:=(List.getElem?_eq_some_iff.1 hx).1
   have hxm:=List.mem_of_getElem? hx
   unfold zed
   simp only[zdb]
   rcases i with _|j
   ·simp -zeta only[zky,dlt hi,zah,hx,k_or,za7,z0q,cond_false,cond_true,zb5,zam (show 0<9223372036854775807 by omega),zalr,zalo,zpv,Bool.or_assoc]
    simp only[Bool.or_assoc]
    try rfl
   ·have hj:l[j]?=some l[j]:=List.getElem?_eq_getElem (by omega)
    simp -zeta only[zky,dlt hi,zah,hx,k_or,za7,dpos,zgb (show j<1000000000 by omega),hj,cond_false,cond_true,zb5,zam (show j+1<9223372036854775807 by omega),zalr,zalo,zpv,Bool.or_assoc]
    simp only[Bool.or_assoc]
    rfl)
 exact h
theorem za1s {l:List Loan} (hl:l.length<1000000000):qbf l=some (zbn l):=by
 unfold qbf zbn
 rw[z14 hl]
 generalize zb4 (zed l) 0 l=e
 cases decide (64<(l.length:Int)) with
 |true=>rfl
 |false=>
  by_cases h:e=0
  ·subst h;rfl
  ·have h2:(e==0)=false:=by simpa using h
   simp only[h2,Bool.false_eq_true,if_false,cond_false]
theorem zhb (l:List Hold) (i:Nat) (x:Hold):zdd l i x=bif zb5 l i (fun y=>decide (x.ID≤y.ID)) then 7 else zb0 x:=by
 unfold zdd
 congr 1
 cases h:zb0 x==0 with
 |true=>simp at h;simp[h]
 |false=>simp
def za4i (q:Hold→Hold→Bool) (l:List Hold):Bool:=zc2 (fun i x=>(l.take i).all (fun y=>!(q y x))) 0 l
theorem zam6 {X:Type} (q:X→Bool) (l:List X):l.any q=!(l.all (fun y=>!(q y))):=by
 induction l with
 |nil=>rfl
 |cons y l ih=>simp only[List.any_cons,List.all_cons];rw[ih];cases q y<;>rfl
end Go.Proofs.YtdahfgialanmpaaGreatDoor
namespace Go.Proofs.YtdahfgialanmpaaGreatDoor
open Ev
open Go (IntKind)
theorem zalg (n lo hi:Int):qbu n lo hi=some (rng lo hi n):=by
 unfold qbu
 simp -zeta only[k_or,za7]
 try rfl
theorem zb7 {lo hi n:Int}:rng lo hi n=true↔lo≤n∧n≤hi:=by
 unfold rng
 simp only[Bool.and_eq_true,decide_eq_true_eq]
theorem zj0 {n:Int} (h:rng 1 12 n=true):n=1∨n=2∨n=3∨n=4∨n=5∨n=6∨n=7∨n=8∨n=9∨n=10∨n=11∨n=12:=by
 have:=zb7.1 h;omega
theorem zeb {n:Int} (h:rng 1 15 n=true):n=1∨n=2∨n=3∨n=4∨n=5∨n=6∨n=7∨n=8∨n=9∨n=10∨n=11∨n=12∨n=13∨n=14∨n=15:=by
 have:=zb7.1 h;omega
theorem za2i {s k:Int} (hs:rng 1 12 s=true) (hk:rng 1 15 k=true):qfm s k=some (zmn s k):=by
 rcases zj0 hs with h|h|h|h|h|h|h|h|h|h|h|h<;>subst h<;>
  rcases zeb hk with h|h|h|h|h|h|h|h|h|h|h|h|h|h|h<;>subst h<;>rfl
theorem za2j (c:Custody):qfn c=some (zk8 c):=by
 unfold qfn zk8 zauh
 simp -zeta only[k_or,za7,zj6,zalg,zpv]
 dsimp only
 cases hb:(decide (c.State<1)||decide (12<c.State)||(decide (c.Branch<1)||decide (4<c.Branch))) with
 |true=>
  have:(decide (c.State<1)||decide (12<c.State)||decide (c.Branch<1)||decide (4<c.Branch))=true:=by rw[←hb,Bool.or_assoc _ _ (decide (4<c.Branch))]
  rw[this];rfl
 |false=>
  have:(decide (c.State<1)||decide (12<c.State)||decide (c.Branch<1)||decide (4<c.Branch))=false:=by rw[←hb,Bool.or_assoc _ _ (decide (4<c.Branch))]
  rw[this]
  have hr:rng 1 12 c.State=true:=by
   simp only[Bool.or_eq_false_iff,decide_eq_false_iff_not]at hb
   rw[zb7];omega
  unfold rng
  simp only[cond_false]
  generalize decide (0≤c.Who)=a1
  generalize decide (c.Who≤9999)=a2
  generalize decide (1≤c.Who)=a3
  generalize decide (1≤c.To)=a4
  generalize decide (c.To≤4)=a5
  generalize (c.To==0)=a6
  generalize (c.To==c.Branch)=a7
  generalize (c.Who==0)=a8
  rcases zj0 hr with h|h|h|h|h|h|h|h|h|h|h|h<;>rw[h]<;>revert a1 a2 a3 a4 a5 a6 a7 a8<;>decide
theorem zaln (c:Custody) (ok:Bool):qcy c ok=some (bif ok then (c,0) else (⟨0,0,0,0⟩,1)):=by
 cases ok<;>rfl
theorem za2k (c:Custody) (m:Move):qfp c m=some (bif !(m.Branch==c.Branch) then (⟨6,c.Branch,m.Who,m.Branch⟩,0) else (⟨0,0,0,0⟩,1)):=by
 unfold qfp
 rw[zaln]
theorem za2b (c:Custody) (m:Move):qec c m=some (zbo c m):=by
 unfold qec zbo
 simp -zeta only[k_or,za7,zj6,zalg,za2j]
 dsimp only
 have hw:(!(rng 0 109572 m.Day)||!(rng 1 9999 m.Item)||!(rng 1 15 m.Kind)||!(rng 1 4 m.Branch)||!(rng 0 9999 m.Who))=!(zp0 m):=by
  unfold zp0 rng
  simp only[Bool.not_and,Bool.or_assoc]
 rw[show (!(zk8 c)||!(rng 0 109572 m.Day)||!(rng 1 9999 m.Item)||!(rng 1 15 m.Kind)||!(rng 1 4 m.Branch)||!(rng 0 9999 m.Who))=(!(zk8 c)||!(zp0 m)) by rw[←hw];simp only[Bool.or_assoc]]
 cases hb:(!(zk8 c)||!(zp0 m)) with
 |true=>rfl
 |false=>
  simp only[Bool.or_eq_false_iff,Bool.not_eq_false']at hb
  obtain ⟨h1,h2⟩:=hb
  rw[h2,Bool.not_true]at hw
  simp only[Bool.or_eq_false_iff,Bool.not_eq_false']at hw
  obtain ⟨⟨⟨⟨w1,w2⟩,w3⟩,w4⟩,w5⟩:=hw
  have hs:rng 1 12 c.State=true:=by
   unfold zk8 at h1
   rw[zb7]
   cases hq:(decide (c.State<1)||decide (12<c.State)||decide (c.Branch<1)||decide (4<c.Branch)) with
   |true=>rw[hq]at h1;cases h1
   |false=>simp only[Bool.or_eq_false_iff,decide_eq_false_iff_not]at hq;omega
  rw[za2i hs w3]
  simp only[cond_false]
  cases ha:zmn c.State m.Kind with
  |false=>rfl
  |true=>
   simp only[Bool.not_true,cond_false]
   have h0:=(zb7.1 w5).1
   unfold zagt zex
   simp only[zaln,za2k]
   generalize (c.State==5)=g5
   generalize (m.Who==c.Who)=g7
   generalize (m.Branch==c.To)=g6
   by_cases hw0:m.Who=0
   ·have e2:decide (1≤m.Who)=false:=by rw[decide_eq_false_iff_not];omega
    rw[e2]
    simp only[hw0]
    by_cases hb:m.Branch=c.Branch
    ·simp only[hb,beq_self_eq_true]
     rcases zeb w3 with h|h|h|h|h|h|h|h|h|h|h|h|h|h|h<;>
      (simp only[h];cases g5<;>cases g6<;>cases g7<;>rfl)
    ·have e3:(m.Branch==c.Branch)=false:=by simpa using hb
     simp only[e3]
     rcases zeb w3 with h|h|h|h|h|h|h|h|h|h|h|h|h|h|h<;>
      (simp only[h];cases g5<;>cases g6<;>cases g7<;>rfl)
   ·have e2:decide (1≤m.Who)=true:=by rw[decide_eq_true_eq];omega
    have e1:(m.Who==0)=false:=by simpa using hw0
    rw[e2]
    simp only[e1]
    by_cases hb:m.Branch=c.Branch
    ·simp only[hb,beq_self_eq_true]
     rcases zeb w3 with h|h|h|h|h|h|h|h|h|h|h|h|h|h|h<;>
      (simp only[h];cases g5<;>cases g6<;>cases g7<;>rfl)
    ·have e3:(m.Branch==c.Branch)=false:=by simpa using hb
     simp only[e3]
     rcases zeb w3 with h|h|h|h|h|h|h|h|h|h|h|h|h|h|h<;>
      (simp only[h];cases g5<;>cases g6<;>cases g7<;>rfl)
end Go.Proofs.YtdahfgialanmpaaGreatDoor
namespace Go.Proofs.YtdahfgialanmpaaGreatDoor
open Ev
open Go (IntKind)
theorem za1c {c:Circ} {item:Int} (hl:c.Items.length<1000000000):qaa c item=some (fIdx (fun x=>x.ID==item) c.Items):=by
 unfold qaa
 rw[za2a (fun x=>x.ID==item) hl (fun x _=>rfl)]
theorem za1r {c:Circ} {item:Int} (hl:c.Holds.length<1000000000):qbe c item=some (zcx c item):=by
 unfold qbe zcx
 rw[zzk (p:=fun (g:Unit×Int×Unit) x0=>qc0 x0 g.2.1) (g:=((),(item,()))) (fun x=>x.Got==item) hl (fun x _=>rfl)]
 rcases za6 (fun x:Hold=>x.Got==item) c.Holds with ⟨h1,h2⟩|⟨i,x,h1,h2,h3,h4⟩
 ·simp only[h1,h2,zg6,cond_true]
  try rfl
 ·simp only[h1,h4,zg5,cond_false,zah,h2]
def zdt (x:Item):Bool:=rng 1 9999 x.ID&&rng 1 9999 x.Record&&rng 1 4 x.Branch&&rng 1 9 x.Kind&&rng 0 100000000 x.Price&&decide ((x.Call.length:Int)≤200)&&vld x.Call
def zcy (c:Circ) (x:Item):Bool:=!(!((zee x.Branch c.Moves x.ID).2.2==0)||!(zbf (zee x.Branch c.Moves x.ID).1 x.Custody))
def z8b (c:Circ):Bool:=c.Moves.all (fun m=>(c.Items.find? (fun x=>x.ID==m.Item)).isSome)
def zri (c:Circ):Bool:=!(decide (64<(c.Items.length:Int))||decide (2000<(c.Moves.length:Int)))&&(zc2 (fun i x=>!(!(zdt x)||zb5 c.Items i (fun y=>decide (x.ID≤y.ID)))) 0 c.Items&&(z8b c&&c.Items.all (zcy c)))
end Go.Proofs.YtdahfgialanmpaaGreatDoor
namespace Go.Proofs.YtdahfgialanmpaaGreatDoor
open Ev
open Go (IntKind)
theorem zf9 {X:Type} {key:X→Int} {l:List X} (h:∀i x,l[i]?=some x→zb5 l i (fun y=>decide (key x≤key y))=false):∀(j i:Nat) (x y:X),i<j→l[i]?=some x→l[j]?=some y→key x<key y:=by
 intro j
 induction j with
 |zero=>intro i x y hi;omega
 |succ j ih=>
  intro i x y hi hx hy
  have hj:=(List.getElem?_eq_some_iff.1 hy).1
  have hz:l[j]?=some l[j]:=List.getElem?_eq_getElem (by omega)
  have:=h _ _ hy
  simp only[zb5,hz,decide_eq_false_iff_not]at this
  by_cases e:i=j
  ·subst e
   rw[hz]at hx;cases hx;omega
  ·have:=ih i x l[j] (by omega) hx hz
   omega
theorem zwe {X:Type} {key:X→Int} {l:List X} (h:∀i x,l[i]?=some x→zb5 l i (fun y=>decide (key x≤key y))=false) {x:X} (hx:x∈l):l.find? (fun y=>key y==key x)=some x:=by
 rcases za6 (fun y=>key y==key x) l with ⟨h1,h2⟩|⟨i,y,h1,h2,h3,h4⟩
 ·rw[List.find?_eq_none]at h2
  exact absurd (beq_self_eq_true _) (h2 x hx)
 ·rw[h4]
  obtain ⟨j,hj⟩:=List.getElem?_of_mem hx
  have e:key y=key x:=by simpa using h3
  by_cases hij:i=j
  ·subst hij;rw[h2]at hj;exact hj
  ·rcases Nat.lt_or_gt_of_ne hij with hlt|hlt
   ·have:=zf9 h _ _ _ _ hlt h2 hj;omega
   ·have:=zf9 h _ _ _ _ hlt hj h2;omega
theorem zjz {X:Type} {f:Nat→X→Int}:∀{l:List X} {k:Nat},zb4 f k l=0→∀i x,l[i]?=some x→f (k+i) x=0:=by
 intro l
 induction l with
 |nil=>intro k _ i x hx;simp at hx
 |cons y l ih=>
  intro k h i x hx
  unfold zb4 at h
  by_cases e:f k y=0
  ·rw[e]at h
   simp only[beq_self_eq_true,if_true]at h
   cases i with
   |zero=>simp at hx;subst hx;exact e
   |succ i=>have:=ih h i x (by simpa using hx);rwa [show k+(i+1)=k+1+i by omega]
  ·have:(f k y==0)=false:=by simpa using e
   rw[this]at h
   exact absurd h e
theorem zdp {b:Bool} {n m:Int} (h:(bif b then n else m)=0) (hn:n≠0):b=false:=by
 cases b with
 |false=>rfl
 |true=>exact absurd h hn
theorem zhd {l:List Hold} (h:zdz l=0):zb4 (zdd l) 0 l=0:=by
 unfold zdz at h
 rw[zdp h (by decide)]at h
 simp only[cond_false]at h
 by_cases e:zb4 (zdd l) 0 l=0
 ·exact e
 ·have h2:(zb4 (zdd l) 0 l==0)=false:=by simpa using e
  rw[h2]at h
  exact h
theorem zem {l:List Hold} (h:zdz l=0):∀i x,l[i]?=some x→zb5 l i (fun y=>decide (x.ID≤y.ID))=false:=by
 intro i x hx
 have:=zjz (k:=0) (zhd h) i x hx
 rw[Nat.zero_add,zhb]at this
 exact zdp this (by decide)
theorem z0y {l:List Hold} (h:zdz l=0) {x:Hold} (hx:x∈l):zb0 x=0:=by
 obtain ⟨i,hi⟩:=List.getElem?_of_mem hx
 have:=zjz (k:=0) (zhd h) i x hi
 rw[Nat.zero_add,zhb]at this
 rw[zdp this (by decide)]at this
 exact this
theorem zjx {a b:Custody}:zbf a b=true↔a=b:=by
 obtain ⟨a1,a2,a3,a4⟩:=a
 obtain ⟨b1,b2,b3,b4⟩:=b
 unfold zbf
 simp[Bool.and_eq_true]
 try (constructor<;>(intro h;simp_all))
end Go.Proofs.YtdahfgialanmpaaGreatDoor
namespace Go.Proofs.YtdahfgialanmpaaGreatDoor
open Ev
open Go (IntKind)
theorem zu0 (c:Circ) (i:Nat) (x:Item):zd0 c i x=(!(!(zdt x)||zb5 c.Items i (fun y=>decide (x.ID≤y.ID)))&&zcy c x):=by
 unfold zd0 zcy zdt
 rw[Bool.eq_iff_iff]
 simp only[Bool.and_eq_true,Bool.not_eq_true',Bool.or_eq_false_iff,decide_eq_false_iff_not,Bool.not_eq_false',zb7,decide_eq_true_eq]
 constructor
 ·rintro ⟨⟨h1,h2⟩,h3⟩
  obtain ⟨⟨⟨⟨⟨⟨a1,a2⟩,a3⟩,a4⟩,a5⟩,a6⟩,a7⟩:=h1
  obtain ⟨⟨⟨⟨⟨b1,b2⟩,b3⟩,b4⟩,b5⟩,b6⟩:=h2
  refine ⟨⟨⟨⟨⟨⟨⟨⟨⟨?_,?_⟩,⟨?_,?_⟩⟩,⟨?_,?_⟩⟩,⟨?_,?_⟩⟩,⟨?_,?_⟩⟩,?_⟩,b6⟩,a3⟩,h3⟩<;>omega
 ·rintro ⟨⟨h1,a3⟩,h3⟩
  obtain ⟨⟨⟨⟨⟨⟨⟨a1,a2⟩,⟨a4,a5⟩⟩,⟨a6,a7⟩⟩,⟨a8,a9⟩⟩,⟨b1,b2⟩⟩,b3⟩,b4⟩:=h1
  refine ⟨⟨⟨⟨⟨⟨⟨⟨?_,?_⟩,a3⟩,?_⟩,?_⟩,?_⟩,?_⟩,⟨⟨⟨⟨⟨?_,?_⟩,?_⟩,?_⟩,?_⟩,b4⟩⟩,h3⟩<;>omega
theorem zrj (c:Circ):ze8 c=zri c:=by
 have key:zc2 (zd0 c) 0 c.Items=(zc2 (fun i x=>!(!(zdt x)||zb5 c.Items i (fun y=>decide (x.ID≤y.ID)))) 0 c.Items&&c.Items.all (zcy c)):=by
  have gen:∀(l:List Item) (k:Nat),zc2 (zd0 c) k l=(zc2 (fun i x=>!(!(zdt x)||zb5 c.Items i (fun y=>decide (x.ID≤y.ID)))) k l&&l.all (zcy c)):=by
   intro l
   induction l with
   |nil=>intro k;rfl
   |cons x l ih=>
    intro k
    simp only[zc2,List.all_cons]
    rw[ih,zu0]
    generalize (!(!(zdt x)||zb5 c.Items k (fun y=>decide (x.ID≤y.ID))))=b1
    generalize zc2 (fun i x=>!(!(zdt x)||zb5 c.Items i (fun y=>decide (x.ID≤y.ID)))) (k+1) l=b2
    cases b1<;>cases b2<;>cases zcy c x<;>cases l.all (zcy c)<;>rfl
  exact gen _ _
 unfold ze8 zri z8b
 rw[key]
 generalize (!(decide (64<(c.Items.length:Int))||decide (2000<(c.Moves.length:Int))))=b1
 generalize zc2 (fun i x=>!(!(zdt x)||zb5 c.Items i (fun y=>decide (x.ID≤y.ID)))) 0 c.Items=b2
 generalize c.Moves.all (fun m=>(c.Items.find? (fun x=>x.ID==m.Item)).isSome)=b3
 cases b1<;>cases b2<;>cases b3<;>cases c.Items.all (zcy c)<;>rfl
theorem zrk {c:Circ} (h:zri c=true) {x:Item} (hx:x∈c.Items):zcy c x=true:=by
 unfold zri at h
 simp only[Bool.and_eq_true,List.all_eq_true]at h
 exact h.2.2.2 x hx
end Go.Proofs.YtdahfgialanmpaaGreatDoor
namespace Go.Proofs.YtdahfgialanmpaaGreatDoor
open Ev
open Go (IntKind)
theorem zcv {X:Type} (l:List X):l.all (fun _=>true)=true:=by rw[List.all_eq_true];intros;rfl
theorem zbg (x:Custody):zbf x x=true:=by simp[zbf]
theorem zo2 (x:Item):zo1 x x=true:=by simp[zo1,zbg]
theorem zjy (x:Patron):zhx x x=true:=by simp[zhx,zbg]
theorem zo4 (x:Loan):zo3 x x=true:=by simp[zo3,zbg]
theorem zo0 (x:Hold):zoz x x=true:=by simp[zoz,zbg]
theorem zjw (x:Charge):zhw x x=true:=by simp[zhw,zbg]
theorem zo8 (x:Rule):zo7 x x=true:=by simp[zo7,zbg]
theorem zo6 (x:Move):zo5 x x=true:=by simp[zo5,zbg]
theorem z16 {c:Circ} (hs:Short c):zad zvl (0,c,c,())=some (.inl (c,c,())):=by
 have h:=zav (step:=zvl) (fun i=>((i:Int),c,c,())) c.Items (fun _ _=>true) (.inr (false,())) (.inl (c,c,())) hs.items
  (by simp only[zvl,dge,cond_false])
  (fun i x hx=>by
   have hi:=(List.getElem?_eq_some_iff.1 hx).1
   have:=hs.items
   simp only[zvl,dlt hi,zah,hx,cond_true,zo2,Bool.not_true,cond_false,zam (show i<9223372036854775807 by omega)])
 rw[show zad zvl (0,c,c,())=_ from h,zaz]
 rw[zcv];rfl
theorem zvf {c:Circ} (hs:Short c):zad zk1 (0,c,c,())=some (.inl (c,c,())):=by
 have h:=zav (step:=zk1) (fun i=>((i:Int),c,c,())) c.Patrons (fun _ _=>true) (.inr (false,())) (.inl (c,c,())) hs.patrons
  (by simp only[zk1,dge,cond_false])
  (fun i x hx=>by
   have hi:=(List.getElem?_eq_some_iff.1 hx).1
   have:=hs.patrons
   simp only[zk1,dlt hi,zah,hx,cond_true,zjy,Bool.not_true,cond_false,zam (show i<9223372036854775807 by omega)])
 rw[show zad zk1 (0,c,c,())=_ from h,zaz]
 rw[zcv];rfl
theorem zvg {c:Circ} (hs:Short c):zad zk2 (0,c,c,())=some (.inl (c,c,())):=by
 have h:=zav (step:=zk2) (fun i=>((i:Int),c,c,())) c.Loans (fun _ _=>true) (.inr (false,())) (.inl (c,c,())) hs.loans
  (by simp only[zk2,dge,cond_false])
  (fun i x hx=>by
   have hi:=(List.getElem?_eq_some_iff.1 hx).1
   have:=hs.loans
   simp only[zk2,dlt hi,zah,hx,cond_true,zo4,Bool.not_true,cond_false,zam (show i<9223372036854775807 by omega)])
 rw[show zad zk2 (0,c,c,())=_ from h,zaz]
 rw[zcv];rfl
theorem zvh {c:Circ} (hs:Short c):zad zk3 (0,c,c,())=some (.inl (c,c,())):=by
 have h:=zav (step:=zk3) (fun i=>((i:Int),c,c,())) c.Holds (fun _ _=>true) (.inr (false,())) (.inl (c,c,())) hs.holds
  (by simp only[zk3,dge,cond_false])
  (fun i x hx=>by
   have hi:=(List.getElem?_eq_some_iff.1 hx).1
   have:=hs.holds
   simp only[zk3,dlt hi,zah,hx,cond_true,zo0,Bool.not_true,cond_false,zam (show i<9223372036854775807 by omega)])
 rw[show zad zk3 (0,c,c,())=_ from h,zaz]
 rw[zcv];rfl
theorem zvi {c:Circ} (hs:Short c):zad zk4 (0,c,c,())=some (.inl (c,c,())):=by
 have h:=zav (step:=zk4) (fun i=>((i:Int),c,c,())) c.Charges (fun _ _=>true) (.inr (false,())) (.inl (c,c,())) hs.charges
  (by simp only[zk4,dge,cond_false])
  (fun i x hx=>by
   have hi:=(List.getElem?_eq_some_iff.1 hx).1
   have:=hs.charges
   simp only[zk4,dlt hi,zah,hx,cond_true,zjw,Bool.not_true,cond_false,zam (show i<9223372036854775807 by omega)])
 rw[show zad zk4 (0,c,c,())=_ from h,zaz]
 rw[zcv];rfl
theorem zvj {c:Circ} (hs:Short c):zad zk5 (0,c,c,())=some (.inl (c,c,())):=by
 have h:=zav (step:=zk5) (fun i=>((i:Int),c,c,())) c.Rules (fun _ _=>true) (.inr (false,())) (.inl (c,c,())) hs.rules
  (by simp only[zk5,dge,cond_false])
  (fun i x hx=>by
   have hi:=(List.getElem?_eq_some_iff.1 hx).1
   have:=hs.rules
   simp only[zk5,dlt hi,zah,hx,cond_true,zo8,Bool.not_true,cond_false,zam (show i<9223372036854775807 by omega)])
 rw[show zad zk5 (0,c,c,())=_ from h,zaz]
 rw[zcv];rfl
theorem zvk {c:Circ} (hs:Short c):zad zk6 (0,c,c,())=some (.inl (c,c,())):=by
 have h:=zav (step:=zk6) (fun i=>((i:Int),c,c,())) c.Moves (fun _ _=>true) (.inr (false,())) (.inl (c,c,())) hs.moves
  (by simp only[zk6,dge,cond_false])
  (fun i x hx=>by
   have hi:=(List.getElem?_eq_some_iff.1 hx).1
   have:=hs.moves
   simp only[zk6,dlt hi,zah,hx,cond_true,zo6,Bool.not_true,cond_false,zam (show i<9223372036854775807 by omega)])
 rw[show zad zk6 (0,c,c,())=_ from h,zaz]
 rw[zcv];rfl
theorem zvr {c:Circ} (hs:Short c):zad zeh (0,0,c,c,())=some (.inl (0,c,c,())):=by
 have st:∀k:Int,zeh (0,k,c,c,())=(bif decide (k<(c.Cals.x0.Closed.length:Int)) then (match getI c.Cals.x0.Closed k with|some x=>(match getI c.Cals.x0.Closed k with|some y=>(bif !(x==y) then some (.inr (.inr (false,()))) else some (.inl (0,wr .i64 (k+1),c,c,())))|none=>none)|none=>none) else some (.inr (.inl (0,c,c,())))):=fun k=>rfl
 have h:=zav (step:=zeh) (fun k=>(0,(k:Int),c,c,())) c.Cals.x0.Closed (fun _ _=>true) (.inr (false,())) (.inl (0,c,c,())) hs.cal0
  (by rw[st];simp only[dge,cond_false])
  (fun k x hx=>by
   have hi:=(List.getElem?_eq_some_iff.1 hx).1
   have:=hs.cal0
   rw[st]
   simp only[dlt hi,zah,hx,cond_true,beq_self_eq_true,Bool.not_true,cond_false,zam (show k<9223372036854775807 by omega)])
 rw[show zad zeh (0,0,c,c,())=_ from h,zaz]
 rw[zcv];rfl
theorem zagw {c:Circ} (hs:Short c):zis (0,c,c,())=some (.inl (1,c,c,())):=by
 have st:zis (0,c,c,())=(bif !(c.Cals.x0.Week==c.Cals.x0.Week) then some (.inr (.inr (false,()))) else bif !((c.Cals.x0.Closed.length:Int)==(c.Cals.x0.Closed.length:Int)) then some (.inr (.inr (false,()))) else
  match zad zeh (0,0,c,c,()) with
  |some (.inl (i,a,b,_))=>some (.inl (wr .i64 (i+1),a,b,()))
  |some (.inr (v,_))=>some (.inr (.inr (v,())))
  |none=>none):=by
  show (bif !(c.Cals.x0.Week==c.Cals.x0.Week) then _ else _)=_
  cases (!(c.Cals.x0.Week==c.Cals.x0.Week))<;>rfl
 rw[st,zvr hs]
 simp only[beq_self_eq_true,Bool.not_true,cond_false]
 try rfl
theorem zvs {c:Circ} (hs:Short c):zad zeh (1,0,c,c,())=some (.inl (1,c,c,())):=by
 have st:∀k:Int,zeh (1,k,c,c,())=(bif decide (k<(c.Cals.x1.Closed.length:Int)) then (match getI c.Cals.x1.Closed k with|some x=>(match getI c.Cals.x1.Closed k with|some y=>(bif !(x==y) then some (.inr (.inr (false,()))) else some (.inl (1,wr .i64 (k+1),c,c,())))|none=>none)|none=>none) else some (.inr (.inl (1,c,c,())))):=fun k=>rfl
 have h:=zav (step:=zeh) (fun k=>(1,(k:Int),c,c,())) c.Cals.x1.Closed (fun _ _=>true) (.inr (false,())) (.inl (1,c,c,())) hs.cal1
  (by rw[st];simp only[dge,cond_false])
  (fun k x hx=>by
   have hi:=(List.getElem?_eq_some_iff.1 hx).1
   have:=hs.cal1
   rw[st]
   simp only[dlt hi,zah,hx,cond_true,beq_self_eq_true,Bool.not_true,cond_false,zam (show k<9223372036854775807 by omega)])
 rw[show zad zeh (1,0,c,c,())=_ from h,zaz]
 rw[zcv];rfl
theorem zagx {c:Circ} (hs:Short c):zis (1,c,c,())=some (.inl (2,c,c,())):=by
 have st:zis (1,c,c,())=(bif !(c.Cals.x1.Week==c.Cals.x1.Week) then some (.inr (.inr (false,()))) else bif !((c.Cals.x1.Closed.length:Int)==(c.Cals.x1.Closed.length:Int)) then some (.inr (.inr (false,()))) else
  match zad zeh (1,0,c,c,()) with
  |some (.inl (i,a,b,_))=>some (.inl (wr .i64 (i+1),a,b,()))
  |some (.inr (v,_))=>some (.inr (.inr (v,())))
  |none=>none):=by
  show (bif !(c.Cals.x1.Week==c.Cals.x1.Week) then _ else _)=_
  cases (!(c.Cals.x1.Week==c.Cals.x1.Week))<;>rfl
 rw[st,zvs hs]
 simp only[beq_self_eq_true,Bool.not_true,cond_false]
 try rfl
theorem zvt {c:Circ} (hs:Short c):zad zeh (2,0,c,c,())=some (.inl (2,c,c,())):=by
 have st:∀k:Int,zeh (2,k,c,c,())=(bif decide (k<(c.Cals.x2.Closed.length:Int)) then (match getI c.Cals.x2.Closed k with|some x=>(match getI c.Cals.x2.Closed k with|some y=>(bif !(x==y) then some (.inr (.inr (false,()))) else some (.inl (2,wr .i64 (k+1),c,c,())))|none=>none)|none=>none) else some (.inr (.inl (2,c,c,())))):=fun k=>rfl
 have h:=zav (step:=zeh) (fun k=>(2,(k:Int),c,c,())) c.Cals.x2.Closed (fun _ _=>true) (.inr (false,())) (.inl (2,c,c,())) hs.cal2
  (by rw[st];simp only[dge,cond_false])
  (fun k x hx=>by
   have hi:=(List.getElem?_eq_some_iff.1 hx).1
   have:=hs.cal2
   rw[st]
   simp only[dlt hi,zah,hx,cond_true,beq_self_eq_true,Bool.not_true,cond_false,zam (show k<9223372036854775807 by omega)])
 rw[show zad zeh (2,0,c,c,())=_ from h,zaz]
 rw[zcv];rfl
theorem zagy {c:Circ} (hs:Short c):zis (2,c,c,())=some (.inl (3,c,c,())):=by
 have st:zis (2,c,c,())=(bif !(c.Cals.x2.Week==c.Cals.x2.Week) then some (.inr (.inr (false,()))) else bif !((c.Cals.x2.Closed.length:Int)==(c.Cals.x2.Closed.length:Int)) then some (.inr (.inr (false,()))) else
  match zad zeh (2,0,c,c,()) with
  |some (.inl (i,a,b,_))=>some (.inl (wr .i64 (i+1),a,b,()))
  |some (.inr (v,_))=>some (.inr (.inr (v,())))
  |none=>none):=by
  show (bif !(c.Cals.x2.Week==c.Cals.x2.Week) then _ else _)=_
  cases (!(c.Cals.x2.Week==c.Cals.x2.Week))<;>rfl
 rw[st,zvt hs]
 simp only[beq_self_eq_true,Bool.not_true,cond_false]
 try rfl
theorem zvu {c:Circ} (hs:Short c):zad zeh (3,0,c,c,())=some (.inl (3,c,c,())):=by
 have st:∀k:Int,zeh (3,k,c,c,())=(bif decide (k<(c.Cals.x3.Closed.length:Int)) then (match getI c.Cals.x3.Closed k with|some x=>(match getI c.Cals.x3.Closed k with|some y=>(bif !(x==y) then some (.inr (.inr (false,()))) else some (.inl (3,wr .i64 (k+1),c,c,())))|none=>none)|none=>none) else some (.inr (.inl (3,c,c,())))):=fun k=>rfl
 have h:=zav (step:=zeh) (fun k=>(3,(k:Int),c,c,())) c.Cals.x3.Closed (fun _ _=>true) (.inr (false,())) (.inl (3,c,c,())) hs.cal3
  (by rw[st];simp only[dge,cond_false])
  (fun k x hx=>by
   have hi:=(List.getElem?_eq_some_iff.1 hx).1
   have:=hs.cal3
   rw[st]
   simp only[dlt hi,zah,hx,cond_true,beq_self_eq_true,Bool.not_true,cond_false,zam (show k<9223372036854775807 by omega)])
 rw[show zad zeh (3,0,c,c,())=_ from h,zaz]
 rw[zcv];rfl
theorem zagz {c:Circ} (hs:Short c):zis (3,c,c,())=some (.inl (4,c,c,())):=by
 have st:zis (3,c,c,())=(bif !(c.Cals.x3.Week==c.Cals.x3.Week) then some (.inr (.inr (false,()))) else bif !((c.Cals.x3.Closed.length:Int)==(c.Cals.x3.Closed.length:Int)) then some (.inr (.inr (false,()))) else
  match zad zeh (3,0,c,c,()) with
  |some (.inl (i,a,b,_))=>some (.inl (wr .i64 (i+1),a,b,()))
  |some (.inr (v,_))=>some (.inr (.inr (v,())))
  |none=>none):=by
  show (bif !(c.Cals.x3.Week==c.Cals.x3.Week) then _ else _)=_
  cases (!(c.Cals.x3.Week==c.Cals.x3.Week))<;>rfl
 rw[st,zvu hs]
 simp only[beq_self_eq_true,Bool.not_true,cond_false]
 try rfl
theorem zauj {c:Circ} (hs:Short c):qw c c=some true:=by
 have s4:zis (4,c,c,())=some (.inr (.inl ())):=rfl
 have h:zad zis (0,c,c,())=some (.inl ()):=by
  refine zba 5 (by rw[za2];omega) ?_
  simp only[za8,zagw hs,zagx hs,zagy hs,zagz hs,s4]
 unfold qw
 rw[h]
theorem zauc {c:Circ} (hs:Short c):qc c c=some true:=by
 unfold qc
 simp -zeta only[k_or,beq_self_eq_true,Bool.not_true,Bool.or_false]
 dsimp only
 simp only[z16 hs,zvf hs,zvg hs,zvh hs,zvi hs,zvj hs,zvk hs,zauj hs,Bool.or_false,cond_false]
end Go.Proofs.YtdahfgialanmpaaGreatDoor
namespace Go.Proofs.YtdahfgialanmpaaGreatDoor
open Ev
open Go (IntKind)
def insS {X:Type} (p:X→Bool) (x:X):List X→List X
 | []=>[x]
 |y::l=>bif p y then x::y::l else y::insS p x l
theorem zre {X:Type} {p:X→Bool} {x:X}:∀{l:List X},l.findIdx? p=none→insS p x l=l++[x]:=by
 intro l
 induction l with
 |nil=>intros;rfl
 |cons y l ih=>
  intro h
  rw[List.findIdx?_cons]at h
  cases hp:p y with
  |true=>rw[hp]at h;cases h
  |false=>
   rw[hp]at h
   simp only[Bool.false_eq_true,if_false,Option.map_eq_none_iff]at h
   simp only[insS,hp,cond_false,ih h,List.cons_append]
theorem zrf {X:Type} {p:X→Bool} {x:X}:∀{l:List X} {k:Nat},l.findIdx? p=some k→insS p x l=l.take k++x::l.drop k∧k≤l.length:=by
 intro l
 induction l with
 |nil=>intro k h;cases h
 |cons y l ih=>
  intro k h
  rw[List.findIdx?_cons]at h
  cases hp:p y with
  |true=>rw[hp]at h;simp at h;subst h;simp[insS,hp]
  |false=>
   rw[hp]at h
   simp only[Bool.false_eq_true,if_false,Option.map_eq_some_iff]at h
   obtain ⟨j,hj,rfl⟩:=h
   obtain ⟨e1,e2⟩:=ih hj
   exact ⟨by simp only[insS,hp,cond_false,e1,List.take_succ_cons,List.drop_succ_cons,List.cons_append],by simp only[List.length_cons];omega⟩
theorem zgq {X:Type} {p:X→Bool} {x:X}:∀{l:List X},(insS p x l).length=l.length+1:=by
 intro l
 induction l with
 |nil=>rfl
 |cons y l ih=>simp only[insS];cases p y<;>simp[ih]
theorem zuy {X:Type} {p:X→Bool} {x:X} {l:List X} (hl:l.length<1000000000):zfy l (bif decide (fIdx p l<0) then (l.length:Int) else fIdx p l) [x]=some (insS p x l):=by
 unfold zfy fIdx
 have h3:decide (l.length+1≤1073741824)=true:=by rw[decide_eq_true_eq];omega
 cases h:l.findIdx? p with
 |none=>
  have h1:decide ((0:Int)≤(l.length:Int))=true:=by rw[decide_eq_true_eq];omega
  simp only[show decide ((-1:Int)<0)=true from rfl,cond_true,h1,Int.le_refl,decide_true,h3,Bool.and_self,Int.toNat_natCast,List.take_length,List.drop_length,zre h]
 |some k=>
  obtain ⟨e1,e2⟩:=zrf (x:=x) h
  have h0:decide ((k:Int)<0)=false:=by rw[decide_eq_false_iff_not];omega
  have h1:decide ((0:Int)≤(k:Int))=true:=by rw[decide_eq_true_eq];omega
  have h2:decide ((k:Int)≤(l.length:Int))=true:=by rw[decide_eq_true_eq];omega
  simp only[h0,cond_false,h1,h2,h3,Bool.and_self,Int.toNat_natCast,cond_true,e1]
theorem zfn {n m:Nat} (h:n+m≤1000000100):decide (n+m≤LIM)=true:=by rw[decide_eq_true_eq];unfold LIM;omega
theorem zit {X:Type} {s:List X} (h:s.length<1000000000):decide (([]:List X).length+s.length≤LIM)=true:=zfn (by simp;omega)
def zeo:Circ:=⟨0,[],[],[],[],[],[],⟨⟨0,[]⟩,⟨0,[]⟩,⟨0,[]⟩,⟨0,[]⟩⟩,[],0,0,false⟩
theorem zs7:Short zeo:=by
 constructor<;>first|(show (0:Nat)<_;decide)|(intro x hx;cases hx)
end Go.Proofs.YtdahfgialanmpaaGreatDoor
namespace Go.Proofs.YtdahfgialanmpaaGreatDoor
open Ev
open Go (IntKind)
def ChOk (x:Charge):Prop:=0≤x.Paid∧x.Paid<x.Amount∧x.Amount≤100000000
theorem zmo {l:List Charge} (h:zch l=0):l.length≤128∧∀x∈l,ChOk x:=by
 unfold zch at h
 rw[Bool.cond_eq_ite]at h
 split at h
 ·omega
 ·rename_i hlen
  simp only[decide_eq_true_eq]at hlen
  refine ⟨by omega,fun x hx=>?_⟩
  obtain ⟨i,hi⟩:=List.getElem?_of_mem hx
  have:=z0t.1 h i x hi
  unfold zd8 at this
  simp only[Bool.cond_eq_ite]at this
  split at this
  ·omega
  ·split at this
   ·omega
   ·split at this
    ·omega
    ·split at this
     ·omega
     ·rename_i h4
      simp only[Bool.or_eq_true,decide_eq_true_eq,not_or]at h4
      unfold ChOk
      omega
def owed (p:Int):List Charge→Int
 | []=>0
 |x::l=>(bif x.Patron==p then x.Amount-x.Paid else 0)+owed p l
theorem za08 {l:List Charge} {p:Int} (hl:l.length≤1000) (hc:∀x∈l,ChOk x):qa0 l p=some (owed p l):=by
 have h:=zlw (step:=zne) (fun i (s:Int)=>(p,s,l,(l.length:Int),(i:Int),())) l (fun x s=>bif x.Patron==p then wr .i64 (s+wr .i64 (x.Amount-x.Paid)) else s) (fun s=>(s,())) (by omega)
  (fun s=>by simp only[zne,dge,cond_false])
  (fun i x s hx=>by
   have hi:=(List.getElem?_eq_some_iff.1 hx).1
   simp only[zne,dlt hi,cond_true,zah,hx,zam (show i<9223372036854775807 by omega)]
   cases x.Patron==p<;>rfl) 0
 unfold qa0
 rw[show zad zne (p,0,l,(l.length:Int),0,())=_ from h]
 have key:∀(l:List Charge) (s:Int),(∀x∈l,ChOk x)→0≤s→s+100000000*(l.length:Int)≤1000000000000→l.foldl (fun s x=>bif x.Patron==p then wr .i64 (s+wr .i64 (x.Amount-x.Paid)) else s) s=s+owed p l:=by
  intro l
  induction l with
  |nil=>intro s _ _ _;simp[owed]
  |cons x l ih=>
   intro s h h0 hb
   have h1:=h x (by simp)
   unfold ChOk at h1
   simp only[List.length_cons]at hb
   simp only[List.foldl_cons,owed]
   cases x.Patron==p with
   |true=>
    simp only[cond_true]
    rw[zc1 (n:=x.Amount-x.Paid) (by omega) (by omega),zc1 (by omega) (by omega),ih _ (fun y hy=>h y (by simp[hy])) (by omega) (by omega)]
    omega
   |false=>
    simp only[cond_false]
    rw[ih _ (fun y hy=>h y (by simp[hy])) h0 (by omega)]
    omega
 simp only
 rw[key l 0 hc (by omega) (by omega)]
 simp
end Go.Proofs.YtdahfgialanmpaaGreatDoor
namespace Go.Proofs.YtdahfgialanmpaaGreatDoor
open Ev
open Go (IntKind)
theorem za1n {l:List Charge} {p:Int} (hl:l.length≤1000) (hc:∀x∈l,ChOk x):qb0 l p=some (owed p l):=by
 have h:=zlw (step:=znp) (fun i (s:Int)=>(l,p,s,(i:Int),())) l (fun x s=>bif x.Patron==p then wr .i64 ((wr .i64 (s+x.Amount))-x.Paid) else s) (fun s=>(s,())) (by omega)
  (fun s=>by simp only[znp,dge,cond_false])
  (fun i x s hx=>by
   have hi:=(List.getElem?_eq_some_iff.1 hx).1
   simp only[znp,dlt hi,cond_true,zah,hx,zam (show i<9223372036854775807 by omega)]
   cases x.Patron==p<;>rfl) 0
 unfold qb0
 rw[show zad znp (l,p,0,0,())=_ from h]
 have key:∀(l:List Charge) (s:Int),(∀x∈l,ChOk x)→0≤s→s+100000000*(l.length:Int)≤1000000000000→l.foldl (fun s x=>bif x.Patron==p then wr .i64 ((wr .i64 (s+x.Amount))-x.Paid) else s) s=s+owed p l:=by
  intro l
  induction l with
  |nil=>intro s _ _ _;simp[owed]
  |cons x l ih=>
   intro s h h0 hb
   have h1:=h x (by simp)
   unfold ChOk at h1
   simp only[List.length_cons]at hb
   simp only[List.foldl_cons,owed]
   cases x.Patron==p with
   |true=>
    simp only[cond_true]
    rw[zc1 (n:=s+x.Amount) (by omega) (by omega),zc1 (by omega) (by omega),ih _ (fun y hy=>h y (by simp[hy])) (by omega) (by omega)]
    omega
   |false=>
    simp only[cond_false]
    rw[ih _ (fun y hy=>h y (by simp[hy])) h0 (by omega)]
    omega
 simp only
 rw[key l 0 hc (by omega) (by omega)]
 simp
def cntS {X:Type} (p:X→Bool):List X→Nat
 | []=>0
 |x::l=>(bif p x then 1 else 0)+cntS p l
theorem zw6 {X:Type} {p:X→Bool}:∀{l:List X} {n:Nat},l.foldl (fun n x=>bif p x then n+1 else n) n=n+cntS p l:=by
 intro l
 induction l with
 |nil=>intro n;rfl
 |cons x l ih=>intro n;rw[List.foldl_cons,ih];simp only[cntS];cases p x<;>simp<;>omega
theorem zt3 {X:Type} {p q:X→Bool}:∀{l:List X},cntS q (l.filter p)=cntS (fun x=>p x&&q x) l:=by
 intro l
 induction l with
 |nil=>rfl
 |cons x l ih=>simp only[List.filter_cons,cntS];cases p x with|true=>simp[cntS,ih]|false=>simp[ih]
theorem za06 {l:List Loan} {p:Int} (hl:l.length<1000000000):q8 l p=some (l.filter (fun x=>x.Patron==p)):=by
 have h:=zbc (step:=z1v) (fun (i:Nat) (s:List Loan)=>s.length≤i) (fun i s=>(p,l,(l.length:Int),(i:Int),s,())) l
  (fun i y s=>.inl (bif y.Patron==p then s++[y] else s)) (fun s=>(s,())) (by rw[za2];omega)
  (fun s _=>by simp only[z1v,dge,cond_false])
  (fun i y s hx hi=>by
   have hlt:=(List.getElem?_eq_some_iff.1 hx).1
   have l1:decide (s.length+([y]:List Loan).length≤LIM)=true:=zfn (by simp;omega)
   refine ⟨?_,fun s' hs'=>?_⟩
   ·simp only[z1v,dlt hlt,zah,hx,cond_true,l1,zam (show i<9223372036854775807 by omega)]
    cases y.Patron==p<;>rfl
   ·cases hs'
    cases y.Patron==p<;>simp<;>omega) [] (by simp)
 rw[zcu]at h
 unfold q8
 rw[show zad z1v (p,l,(l.length:Int),0,[],())=_ from h]
 have key:∀(l o:List Loan),l.foldl (fun s y=>bif y.Patron==p then s++[y] else s) o=o++l.filter (fun x=>x.Patron==p):=by
  intro l
  induction l with
  |nil=>intro o;simp
  |cons x l ih=>intro o;rw[List.foldl_cons,ih,List.filter_cons];cases x.Patron==p<;>simp
 simp only
 rw[key]
 try rfl
def zrl (p day:Int) (l:List Loan):Int:=(cntS (fun x=>x.Patron==p&&decide (x.Due<day)) l:Int)
theorem za1k {l:List Loan} {p day:Int} (hl:l.length<1000000000):qar l p day=some (zrl p day l):=by
 unfold qar zrl
 rw[za06 hl,←zt3]
 have hf:(l.filter (fun x=>x.Patron==p)).length<1000000000:=by have:=List.length_filter_le (fun x:Loan=>x.Patron==p) l;omega
 generalize l.filter (fun x=>x.Patron==p)=m at hf ⊢
 have h:=zbc (step:=znn) (fun (i:Nat) (s:Nat)=>s≤i) (fun i s=>(day,(s:Int),m,(m.length:Int),(i:Int),())) m
  (fun i y s=>.inl (bif decide (y.Due<day) then s+1 else s)) (fun s=>((s:Int),())) (by rw[za2];omega)
  (fun s _=>by simp only[znn,dge,cond_false])
  (fun i y s hx hi=>by
   have hlt:=(List.getElem?_eq_some_iff.1 hx).1
   refine ⟨?_,fun s' hs'=>?_⟩
   ·simp only[znn,dlt hlt,zah,hx,cond_true,zam (show i<9223372036854775807 by omega),zam (show s<9223372036854775807 by omega)]
    cases decide (y.Due<day)<;>rfl
   ·cases hs'
    cases decide (y.Due<day)<;>simp<;>omega) 0 (by omega)
 rw[zcu]at h
 simp only
 rw[show zad znn (day,0,m,(m.length:Int),0,())=_ from h,zw6,Nat.zero_add]
theorem za1z {l:List Loan} {p day:Int} (hl:l.length<1000000000):qbz l p day=some (zrl p day l):=by
 unfold qbz zrl
 have h:=zbc (step:=znv) (fun (i:Nat) (s:Nat)=>s≤i) (fun i s=>(l,p,day,(s:Int),(i:Int),())) l
  (fun i y s=>.inl (bif y.Patron==p&&decide (y.Due<day) then s+1 else s)) (fun s=>((s:Int),())) (by rw[za2];omega)
  (fun s _=>by simp only[znv,dge,cond_false])
  (fun i y s hx hi=>by
   have hlt:=(List.getElem?_eq_some_iff.1 hx).1
   refine ⟨?_,fun s' hs'=>?_⟩
   ·simp -zeta only[znv,dlt hlt,zah,hx,cond_true,za7,zam (show i<9223372036854775807 by omega),zam (show s<9223372036854775807 by omega)]
    dsimp only
    cases (y.Patron==p&&decide (y.Due<day))<;>rfl
   ·cases hs'
    cases (y.Patron==p&&decide (y.Due<day))<;>simp<;>omega) 0 (by omega)
 rw[zcu]at h
 rw[show zad znv (l,p,day,0,0,())=_ from h,zw6,Nat.zero_add]
def zep (p:Patron) (day owed late:Int):List Int:=(bif p.Stopped then [1] else [])++((bif decide (p.Until<day) then [2] else [])++((bif decide (1000<owed) then [3] else [])++(bif decide (2<late) then [4] else [])))
theorem za2m (p:Patron) (day owed late:Int):qfr p day owed late=some (zep p day owed late):=by
 unfold qfr zep
 cases p.Stopped<;>cases decide (p.Until<day)<;>cases decide (1000<owed)<;>cases decide (2<late)<;>rfl
theorem za1q (p:Patron) (day owed late:Int):qbb p day owed late=some (zep p day owed late):=by
 unfold qbb zep
 generalize p.Stopped=b1
 generalize decide (p.Until<day)=b2
 generalize decide (1000<owed)=b3
 generalize decide (2<late)=b4
 have h:zad z8s ((([b1,b2,b3,b4]).length:Int),0,([]:List Int),[b1,b2,b3,b4],())=some (((bif b1 then [1] else [])++((bif b2 then [2] else [])++((bif b3 then [3] else [])++(bif b4 then [4] else [])))),()):=by
  refine zba 5 (by rw[za2];omega) ?_
  cases b1<;>cases b2<;>cases b3<;>cases b4<;>rfl
 rw[h]
theorem za15 {c:Circ} {p:Patron} (hs:Short c) (hc:zch c.Charges=0):qde c p=some (decide (0<((zep p c.Today (owed p.ID c.Charges) (zrl p.ID c.Today c.Loans)).length:Int))):=by
 obtain ⟨h1,h2⟩:=zmo hc
 unfold qde
 rw[za08 (by omega) h2,za1k hs.loans]
 dsimp only
 rw[za1q]
theorem za2l {c:Circ} {id:Int} (hs:Short c) (hc:zch c.Charges=0):qfq c id=some (decide (0<((zep (getP c.Patrons id).1 c.Today (owed id c.Charges) (zrl id c.Today c.Loans)).length:Int))):=by
 obtain ⟨h1,h2⟩:=zmo hc
 unfold qfq
 rw[zf5 hs.patrons,za1n (by omega) h2,za1z hs.loans]
 dsimp only
 rw[za2m]
end Go.Proofs.YtdahfgialanmpaaGreatDoor
namespace Go.Proofs.YtdahfgialanmpaaGreatDoor
open Ev
open Go (IntKind)
def zdi (r:Rule):Int:=(bif !(r.Patron==0) then 4 else 0)+((bif !(r.Item==0) then 2 else 0)+(bif !(r.Branch==0) then 1 else 0))
theorem za2f (r:Rule):qev r=some (zdi r):=by
 unfold qev zdi
 cases r.Patron==0<;>cases r.Item==0<;>cases r.Branch==0<;>rfl
theorem za1u (r:Rule):qbk r=some (zdi r):=by
 unfold qbk
 have st:∀(a b c n:Int),(∀(m:Int),zif (m,3,0,[a,b,c],())=some (.inl (bif !(a==0) then wr .i64 ((wr .i64 (m*2))+1) else wr .i64 (m*2),3,1,[a,b,c],())))∧
  (∀(m:Int),zif (m,3,1,[a,b,c],())=some (.inl (bif !(b==0) then wr .i64 ((wr .i64 (m*2))+1) else wr .i64 (m*2),3,2,[a,b,c],())))∧
  (∀(m:Int),zif (m,3,2,[a,b,c],())=some (.inl (bif !(c==0) then wr .i64 ((wr .i64 (m*2))+1) else wr .i64 (m*2),3,3,[a,b,c],()))):=fun a b c n=>
  ⟨fun m=>by show (bif !(a==0) then _ else _)=_;cases a==0<;>rfl,fun m=>by show (bif !(b==0) then _ else _)=_;cases b==0<;>rfl,fun m=>by show (bif !(c==0) then _ else _)=_;cases c==0<;>rfl⟩
 obtain ⟨s0,s1,s2⟩:=st r.Patron r.Item r.Branch 0
 have s3:∀m:Int,zif (m,3,3,[r.Patron,r.Item,r.Branch],())=some (.inr (m,())):=fun m=>rfl
 have h:zad zif (0,(([r.Patron,r.Item,r.Branch]).length:Int),0,[r.Patron,r.Item,r.Branch],())=some (zdi r,()):=by
  refine zba 4 (by rw[za2];omega) ?_
  show za8 zif 4 (0,3,0,[r.Patron,r.Item,r.Branch],())=_
  simp only[za8,s0,s1,s2,s3]
  unfold zdi
  cases r.Patron==0<;>cases r.Item==0<;>cases r.Branch==0<;>rfl
 rw[h]
def zl7 (r:Rule) (p i b:Int):Bool:=(r.Patron==0||r.Patron==p)&&(r.Item==0||r.Item==i)&&(r.Branch==0||r.Branch==b)
theorem zalt (r:Rule) (p i b:Int):qfh r p i b=some (zl7 r p i b):=by
 unfold qfh zl7
 simp -zeta only[k_or,za7]
 try rfl
theorem za2e (a b:Int):qep a b=some (a==0||a==b):=by
 unfold qep
 cases a==0<;>rfl
theorem zalj (r:Rule) (p i b:Int):qcb r p i b=some (zl7 r p i b):=by
 unfold qcb zl7
 simp -zeta only[za2e,k_or,za7]
 try dsimp only
def wB (l:List Rule) (b:Int):Int:=match getI l b with|some y=>zdi y|none=>0
def zqj (l:List Rule) (p it br:Int) (i:Nat) (x:Rule) (b:Int):Int:=bif zl7 x p it br&&(decide (b<0)||decide (wB l b<zdi x)) then (i:Int) else b
def zacd (l:List Rule) (p it br:Int):Int:=zcz (fun i x b=>.inl (zqj l p it br i x b)) (fun b=>b) 0 l (-1)
def zfr (l:List Rule) (b:Int):Prop:=b<0∨∃k:Nat,b=(k:Int)∧k<l.length
theorem zqk {l:List Rule} {b:Int} (h:zfr l b) (hb:decide (b<0)=false):∃y,getI l b=some y∧wB l b=zdi y:=by
 rcases h with h|⟨k,rfl,hk⟩
 ·rw[decide_eq_false_iff_not]at hb;omega
 ·have:getI l (k:Int)=some l[k]:=by rw[zah,List.getElem?_eq_getElem hk]
  exact ⟨_,this,by unfold wB;rw[this]⟩
theorem zjb {l:List Rule} {p it br:Int} {i:Nat} {x:Rule} {b:Int} (h:zfr l b) (hi:i<l.length):zfr l (zqj l p it br i x b):=by
 unfold zqj
 cases zl7 x p it br&&(decide (b<0)||decide (wB l b<zdi x)) with
 |true=>exact .inr ⟨i,rfl,hi⟩
 |false=>exact h
theorem ztk {X σ β γ:Type} {f:Nat→X→σ→σ} {g:σ→β} (k:β→γ):∀{l:List X} {i:Nat} {s:σ},k (zcz (fun i x s=>.inl (f i x s)) g i l s)=zcz (fun i x s=>.inl (f i x s)) (fun s=>k (g s)) i l s:=by
 intro l
 induction l with
 |nil=>intros;rfl
 |cons x l ih=>intro i s;simp only[zcz];exact ih
theorem za1m {l:List Rule} {p it br:Int} (hl:l.length<1000000000):qaw l p it br=some (zacd l p it br):=by
 have h:=zbc (step:=zkx) (fun (i:Nat) (b:Int)=>zfr l b) (fun i b=>(l,p,it,br,b,l,(l.length:Int),(i:Int),())) l
  (fun i x b=>.inl (zqj l p it br i x b)) (fun b=>(b,())) (by rw[za2];omega)
  (fun b _=>by simp only[zkx,dge,cond_false])
  (fun i x b hx hi=>by
   have hlt:=(List.getElem?_eq_some_iff.1 hx).1
   refine ⟨?_,fun s' hs'=>by cases hs';exact zjb hi hlt⟩
   unfold zqj
   cases hb:decide (b<0) with
   |true=>
    simp only[zkx,dlt hlt,zah,hx,cond_true,zalj,hb,zam (show i<9223372036854775807 by omega)]
    cases zl7 x p it br<;>rfl
   |false=>
    obtain ⟨y,h1,h2⟩:=zqk hi hb
    simp only[zkx,dlt hlt,zah,hx,cond_true,cond_false,zalj,za1u,h1,h2,hb,zam (show i<9223372036854775807 by omega)]
    cases zl7 x p it br<;>cases decide (zdi y<zdi x)<;>rfl) (-1) (.inl (by omega))
 unfold qaw
 rw[show zad zkx (l,p,it,br,(-1),l,(l.length:Int),0,())=_ from h,←ztk (g:=fun b=>b) (fun b:Int=>(b,()))]
 try rfl
theorem zalh {l:List Rule} {p it br:Int} (hl:l.length<1000000000):qbw l p it br=some (zacd l p it br):=by
 have h:=zbc (step:=zk0) (fun (i:Nat) (b:Int)=>zfr l b) (fun i b=>(l,p,it,br,b,(i:Int),())) l
  (fun i x b=>.inl (zqj l p it br i x b)) (fun b=>(b,())) (by rw[za2];omega)
  (fun b _=>by simp only[zk0,dge,cond_false])
  (fun i x b hx hi=>by
   have hlt:=(List.getElem?_eq_some_iff.1 hx).1
   refine ⟨?_,fun s' hs'=>by cases hs';exact zjb hi hlt⟩
   unfold zqj
   cases hb:decide (b<0) with
   |true=>
    simp only[zk0,dlt hlt,zah,hx,cond_true,zalt,hb,zam (show i<9223372036854775807 by omega)]
    cases zl7 x p it br<;>rfl
   |false=>
    obtain ⟨y,h1,h2⟩:=zqk hi hb
    simp only[zk0,dlt hlt,zah,hx,cond_true,cond_false,zalt,za2f,h1,h2,hb,zam (show i<9223372036854775807 by omega)]
    cases zl7 x p it br<;>cases decide (zdi y<zdi x)<;>rfl) (-1) (.inl (by omega))
 unfold qbw
 rw[show zad zk0 (l,p,it,br,(-1),0,())=_ from h,←ztk (g:=fun b=>b) (fun b:Int=>(b,()))]
 try rfl
theorem zaug {l:List Rule} {p it br:Int} (hl:l.length<1000000000):qdf l p it br=qf1 l p it br:=by
 unfold qdf qf1
 rw[za1m hl,zalh hl]
 try rfl
theorem zaud {c:Circ} {p:Int} {x:Item} (hs:Short c):qcc c p x=qfz c p x:=by
 unfold qcc qfz
 rw[zalm hs.patrons,zf5 hs.patrons]
 dsimp only
 rw[zaug hs.rules]
 try rfl
def calS (c:Circ) (b:Int):Calendar:=bif b==1 then c.Cals.x0 else bif b==2 then c.Cals.x1 else bif b==3 then c.Cals.x2 else c.Cals.x3
theorem zmw {n:Int} (h:rng 1 4 n=true):n=1∨n=2∨n=3∨n=4:=by
 have:=zb7.1 h;omega
theorem za36 {c:Circ} {b:Int} (h:rng 1 4 b=true):qp c b=some (calS c b):=by
 rcases zmw h with h|h|h|h<;>subst h<;>rfl
theorem za11 {c:Circ} {b:Int} (h:rng 1 4 b=true):qcn c b=some (calS c b):=by
 rcases zmw h with h|h|h|h<;>subst h<;>rfl
end Go.Proofs.YtdahfgialanmpaaGreatDoor
namespace Go.Proofs.YtdahfgialanmpaaGreatDoor
open Ev
open Go (IntKind)
def zf1 (week:Int) (i:Nat):Bool:=(wr .i64 (BitVec.ofInt 64 (week.fdiv (2 ^ (min i 64))) &&& BitVec.ofInt 64 1).toNat)==0
theorem za1l (c:Calendar):qau c=some ⟨zf1 c.Week 0,zf1 c.Week 1,zf1 c.Week 2,zf1 c.Week 3,zf1 c.Week 4,zf1 c.Week 5,zf1 c.Week 6⟩:=by
 have h:zad z8p (0,c,(⟨false,false,false,false,false,false,false⟩:V7 Bool),(⟨false,false,false,false,false,false,false⟩:V7 Bool),())=some ((⟨false,false,false,false,false,false,false⟩:V7 Bool),(⟨zf1 c.Week 0,zf1 c.Week 1,zf1 c.Week 2,zf1 c.Week 3,zf1 c.Week 4,zf1 c.Week 5,zf1 c.Week 6⟩:V7 Bool),()):=by
  refine zba 8 (by rw[za2];omega) ?_
  try rfl
 unfold qau
 rw[h]
def bitW:Int→Nat→Int
 |n,0=>n
 |n,k+1=>bitW (wr .i64 (n.tdiv 2)) k
theorem z81 {day n:Int} {c:Calendar}:∀(k:Nat) (i:Nat) (n:Int),i+k<100→za8 z2h (k+1) (day,n,((i+k:Nat):Int),(i:Int),c,())=some (day,bitW n k,c,()):=by
 intro k
 induction k with
 |zero=>
  intro i n hi
  have:decide ((i:Int)<((i+0:Nat):Int))=false:=by rw[decide_eq_false_iff_not];omega
  simp only[za8,z2h,this,cond_false,bitW]
 |succ k ih=>
  intro i n hi
  have:decide ((i:Int)<((i+(k+1):Nat):Int))=true:=by rw[decide_eq_true_eq];omega
  rw[za8]
  simp only[z2h,this,cond_true,zam (show i<9223372036854775807 by omega),bitW]
  have:=ih (i+1) (wr .i64 (n.tdiv 2)) (by omega)
  rw[show i+1+k=i+(k+1) by omega]at this
  exact this
theorem z2x:((List.range 127).all fun n=>(List.range 7).all fun w=>zf1 (n:Int) w==!((bitW (n:Int) w).tmod 2==1))=true:=by kernel_rfl
theorem zaby {week:Int} {w:Nat} (h1:0≤week) (h2:week≤126) (hw:w<7):zf1 week w=!((bitW week w).tmod 2==1):=by
 obtain ⟨n,rfl⟩:∃n:Nat,week=(n:Int):=⟨week.toNat,by omega⟩
 have h:=z2x
 rw[List.all_eq_true]at h
 have h3:=h n (List.mem_range.2 (by omega))
 rw[List.all_eq_true]at h3
 have h4:=h3 w (List.mem_range.2 hw)
 simpa using h4
def lbS (t:Int) (l:List Int):Nat:=(l.takeWhile (fun x=>decide (x<t))).length
theorem za3y {t:Int} {l:List Int}:lbS t l≤l.length:=by
 unfold lbS
 have:=(List.takeWhile_prefix (fun x=>decide (x<t)) (l:=l)).length_le
 exact this
theorem zrm {t:Int}:∀{l:List Int} {k:Nat} {x:Int},k<lbS t l→l[k]?=some x→x<t:=by
 intro l
 induction l with
 |nil=>intro k x h;simp[lbS]at h
 |cons y l ih=>
  intro k x h hx
  unfold lbS at h ih
  rw[List.takeWhile_cons]at h
  by_cases hy:y<t
  ·simp only[hy,decide_true,if_true,List.length_cons]at h
   cases k with
   |zero=>simp at hx;omega
   |succ k=>exact ih (k:=k) (by omega) (by simpa using hx)
  ·simp[hy]at h
theorem za02 {t:Int}:∀{l:List Int} {x:Int},l[lbS t l]?=some x→¬x<t:=by
 intro l
 induction l with
 |nil=>intro x h;simp[lbS]at h
 |cons y l ih=>
  intro x hx
  unfold lbS at hx ih
  rw[List.takeWhile_cons]at hx
  by_cases hy:y<t
  ·simp only[hy,decide_true,if_true,List.length_cons,List.getElem?_cons_succ]at hx
   exact ih hx
  ·simp[hy]at hx;omega
theorem zakz {t:Int} {l:List Int} (hsort:∀(j i:Nat) (x y:Int),i<j→l[i]?=some x→l[j]?=some y→x<y) {k:Nat} {x:Int} (hx:l[k]?=some x):decide (x<t)=decide (k<lbS t l):=by
 rw[decide_eq_decide]
 constructor
 ·intro h
  by_cases hk:k<lbS t l
  ·exact hk
  ·exfalso
   have hlt:lbS t l<l.length:=by have:=(List.getElem?_eq_some_iff.1 hx).1;omega
   have hz:l[lbS t l]?=some l[lbS t l]:=List.getElem?_eq_getElem hlt
   have:=za02 hz
   by_cases e:lbS t l=k
   ·subst e
    rw[hz]at hx;cases hx;exact this h
   ·have:=hsort k (lbS t l) _ _ (by omega) hz hx;omega
 ·intro h;exact zrm h hx
theorem za04 {i j:Nat} (h:i+j<2000000000):wr .i64 ((wr .u64 (wr .i64 ((i:Int)+(j:Int)))).fdiv (2 ^ 1))=(((i+j) / 2:Nat):Int):=by
 rw[zc1 (n:=(i:Int)+(j:Int)) (by omega) (by omega)]
 have:wr .u64 ((i:Int)+(j:Int))=(i:Int)+(j:Int):=by
  unfold wr;simp[IntKind.wrap,IntKind.bits,IntKind.signed];omega
 rw[this,Int.fdiv_eq_ediv_of_nonneg _ (by omega)]
 have e:((i:Int)+(j:Int)) / 2 ^ 1=(((i+j) / 2:Nat):Int):=by omega
 rw[e,zc1 (by omega) (by omega)]
theorem za19 (x y:Int):qe9 x y=some (decide (x<y)):=by
 have e:∀z:Int,qe7 z=some false:=fun z=>by unfold qe7;simp
 unfold qe9
 rw[e]
 try rfl
theorem z2o {l:List Int} {t:Int} (hl:l.length<1000000000) (hsort:∀(j i:Nat) (x y:Int),i<j→l[i]?=some x→l[j]?=some y→x<y) :
 zad zng (l,t,(l.length:Int),0,(l.length:Int),())=some (l,t,(l.length:Int),(lbS t l:Int),()):=by
 refine zabz (step:=zng) (fun a=>∃i j:Nat,a=(l,t,(l.length:Int),(i:Int),(j:Int),())∧i≤lbS t l∧lbS t l≤j∧j≤l.length) (fun a=>(a.2.2.2.2.1-a.2.2.2.1).toNat) (fun _=>(l,t,(l.length:Int),(lbS t l:Int),())) ?_ ⟨0,l.length,rfl,by omega,za3y,by omega⟩ (by rw[za2];show ((l.length:Int)-0).toNat<_;omega)
 rintro a ⟨i,j,rfl,h1,h2,h3⟩
 by_cases hij:i<j
 ·left
  have d:decide ((i:Int)<(j:Int))=true:=by rw[decide_eq_true_eq];omega
  have hm:(i+j) / 2<l.length:=by omega
  have hx:l[(i+j) / 2]?=some l[(i+j) / 2]:=List.getElem?_eq_getElem hm
  have hlb:=zakz (t:=t) hsort hx
  simp only[zng,d,cond_true,za04 (show i+j<2000000000 by omega),zah,hx,za19,hlb]
  by_cases hk:(i+j) / 2<lbS t l
  ·rw[show decide ((i+j) / 2<lbS t l)=true by rw[decide_eq_true_eq];exact hk]
   simp only[cond_true,zam (show (i+j) / 2<9223372036854775807 by omega)]
   exact ⟨_,rfl,⟨(i+j) / 2+1,j,rfl,by omega,h2,h3⟩,by simp only;omega,trivial⟩
  ·rw[show decide ((i+j) / 2<lbS t l)=false by rw[decide_eq_false_iff_not];exact hk]
   simp only[cond_false]
   exact ⟨_,rfl,⟨i,(i+j) / 2,rfl,h1,by omega,by omega⟩,by simp only;omega,trivial⟩
 ·right
  have d:decide ((i:Int)<(j:Int))=false:=by rw[decide_eq_false_iff_not];omega
  have hi:i=lbS t l:=by omega
  subst hi
  simp only[zng,d,cond_false]
theorem z9a {l:List Int} {t:Int} (hl:l.length<1000000000) (hsort:∀(j i:Nat) (x y:Int),i<j→l[i]?=some x→l[j]?=some y→x<y) :
 qa2 l t=some ((lbS t l:Int),l.any (fun x=>x==t)):=by
 unfold qa2
 rw[z2o hl hsort]
 by_cases hk:lbS t l<l.length
 ·have d:decide ((lbS t l:Int)<(l.length:Int))=true:=by rw[decide_eq_true_eq];omega
  have hx:l[lbS t l]?=some l[lbS t l]:=List.getElem?_eq_getElem hk
  have hn:qem l[lbS t l]=some false:=by unfold qem;simp
  simp only[d,cond_true,zah,hx,hn,cond_false]
  have e:(l[lbS t l]==t)=l.any (fun x=>x==t):=by
   rw[Bool.eq_iff_iff,List.any_eq_true]
   constructor
   ·intro h;exact ⟨_,List.getElem_mem hk,h⟩
   ·rintro ⟨x,hm,he⟩
    have he':x=t:=by simpa using he
    obtain ⟨i,hi⟩:=List.getElem?_of_mem hm
    have h1:=zakz (t:=t) hsort hi
    have h2:=za02 hx
    rw[decide_eq_decide]at h1
    by_cases e:i=lbS t l
    ·rw[e,hx]at hi;cases hi;exact he
    ·have:lbS t l<i:=by omega
     have:=hsort _ _ _ _ this hx hi
     omega
  rw[←e]
  cases l[lbS t l]==t<;>rfl
 ·have d:decide ((lbS t l:Int)<(l.length:Int))=false:=by rw[decide_eq_false_iff_not];omega
  have e:l.any (fun x=>x==t)=false:=by
   rw[List.any_eq_false]
   intro x hm he
   have he':x=t:=by simpa using he
   obtain ⟨i,hi⟩:=List.getElem?_of_mem hm
   have:=(List.getElem?_eq_some_iff.1 hi).1
   have:=zrm (t:=t) (show i<lbS t l by omega) hi
   omega
  simp only[d,cond_false,e]
end Go.Proofs.YtdahfgialanmpaaGreatDoor
namespace Go.Proofs.YtdahfgialanmpaaGreatDoor
open Ev
open Go (IntKind)
theorem zuv {l:List Int} (h:incr l=true):∀(j i:Nat) (x y:Int),i<j→l[i]?=some x→l[j]?=some y→x<y:=by
 have h2:∀i x,l[i]?=some x→zb5 l i (fun y=>decide (x≤y))=false:=by
  intro i x hx
  have:=(z3g.1 h) i x hx
  rw[Nat.zero_add]at this
  simpa using this
 exact zf9 (key:=fun x:Int=>x) h2
structure CalOk (c:Calendar):Prop where
 w1:0≤c.Week
 w2:c.Week≤126
 len:c.Closed.length<1000000000
 inc:incr c.Closed=true
theorem zacg {c:Calendar} (h:(zcm c==0)=true):CalOk c:=by
 have h:zcm c=0:=by simpa using h
 unfold zcm at h
 have h1:=zdp h (by decide)
 rw[h1]at h
 simp only[cond_false]at h
 have h2:=zdp h (by decide)
 rw[h2]at h
 simp only[cond_false]at h
 simp only[Bool.or_eq_false_iff,decide_eq_false_iff_not]at h1 h2
 cases h3:c.Closed.all (fun x=>!(decide (x<0)||decide (109572<x))) with
 |false=>rw[h3]at h;cases h
 |true=>
  rw[h3]at h
  cases h4:incr c.Closed with
  |false=>rw[h4]at h;cases h
  |true=>exact ⟨by omega,by omega,by omega,h4⟩
def zmd (c:Calendar) (d:Int):Bool:=rng 0 109572 d&&(!(c.Closed.any (fun x=>x==d))&&zf1 c.Week (d.tmod 7).toNat)
theorem za3o {d:Int} (h:0≤d):0≤d.tmod 7∧d.tmod 7<7:=by
 rw[Int.tmod_eq_emod_of_nonneg h];omega
theorem zzl {c:Calendar} (hc:CalOk c) (d:Int):qcg c d=some (zmd c d):=by
 unfold qcg zmd
 rw[za14]
 dsimp only
 cases hr:rng 0 109572 d with
 |false=>rfl
 |true=>
  simp -zeta only[Bool.not_true,cond_false,Bool.true_and]
  rw[z9a hc.len (zuv hc.inc)]
  dsimp only
  cases c.Closed.any (fun x=>x==d) with
  |true=>rfl
  |false=>
   have hk:qdd d=some (d.tmod 7):=by
    have e:qfv d=some (rng 0 109572 d):=by
     unfold qfv
     simp -zeta only[za7]
     try rfl
    unfold qdd
    rw[e,hr]
    try rfl
   simp only[Bool.not_false,cond_true,za1l,hk,Bool.true_and]
   obtain ⟨h1,h2⟩:=za3o (zb7.1 hr).1
   generalize d.tmod 7=w at h1 h2
   have:w=0∨w=1∨w=2∨w=3∨w=4∨w=5∨w=6:=by omega
   rcases this with h|h|h|h|h|h|h<;>subst h<;>rfl
theorem z2g {c:Calendar} {d:Int} (hl:c.Closed.length<1000000000):zad zlc (d,0,c,())=some (bif c.Closed.all (fun x=>!(x==d)) then .inl () else .inr (false,())):=by
 have h:=zav (step:=zlc) (fun i=>(d,(i:Int),c,())) c.Closed (fun _ x=>!(x==d)) (.inr (false,())) (.inl ()) hl
  (by simp only[zlc,dge,cond_false])
  (fun i x hx=>by
   have hi:=(List.getElem?_eq_some_iff.1 hx).1
   simp only[zlc,dlt hi,zah,hx,cond_true,zam (show i<9223372036854775807 by omega)]
   cases x==d<;>rfl)
 rw[show zad zlc (d,0,c,())=_ from h,zaz]
theorem z2i {c:Calendar} (hc:CalOk c) (d:Int):qz c d=some (zmd c d):=by
 unfold qz zmd
 simp -zeta only[k_or]
 dsimp only
 rw[←zpv]
 cases hr:rng 0 109572 d with
 |false=>rfl
 |true=>
  have hk:qfc d=some (d.tmod 7):=by
   have e:qf3 d=some (rng 0 109572 d):=by
    unfold qf3
    simp -zeta only[za7]
    try rfl
   unfold qfc
   rw[e,hr]
   try rfl
  simp only[Bool.not_true,cond_false,Bool.true_and,hk]
  obtain ⟨h1,h2⟩:=za3o (zb7.1 hr).1
  generalize d.tmod 7=w at h1 h2
  obtain ⟨n,rfl⟩:∃n:Nat,w=(n:Int):=⟨w.toNat,by omega⟩
  have hn:n<7:=by omega
  have hw:zad z2h (d,c.Week,(n:Int),0,c,())=some (d,bitW c.Week n,c,()):=by
   have:=z81 (day:=d) (n:=0) (c:=c) n 0 c.Week (by omega)
   rw[Nat.zero_add]at this
   exact zba (n+1) (by rw[za2];omega) this
  simp only[hw,Int.toNat_natCast,zaby hc.w1 hc.w2 hn,z2g hc.len]
  cases (bitW c.Week n).tmod 2==1 with
  |true=>simp
  |false=>
   simp only[cond_false,Bool.not_false,Bool.and_true,zam6,Bool.not_not]
   cases c.Closed.all (fun x=>!(x==d))<;>rfl
theorem zii {α β:Type} {s1 s2:α→Option (α⊕β)} (Inv:α→Prop) (h:∀a,Inv a→s1 a=s2 a) (hi:∀a b,Inv a→s1 a=some (.inl b)→Inv b) {a:α} (ha:Inv a):zad s1 a=zad s2 a:=by
 have key:∀n a,Inv a→za8 s1 n a=za8 s2 n a:=by
  intro n
  induction n with
  |zero=>intro a _;rfl
  |succ n ih=>
   intro a ha
   simp only[za8]
   rw[←h a ha]
   cases hs:s1 a with
   |none=>rfl
   |some x=>
    cases x with
    |inl b=>exact ih b (hi a b ha hs)
    |inr b=>rfl
 exact key FUEL a ha
theorem zat9 {c:Calendar} (hc:CalOk c) (d:Int):qa4 c d=qb1 c d:=by
 have h:∀d0:Int,zad zta (d0,c,())=zad zhk (d0,c,()):=fun d0=>by
  refine zii (fun a=>a.2.1=c) ?_ ?_ rfl
  ·rintro ⟨d,c',_⟩ (rfl:c'=c)
   simp only[zta,zhk,zzl hc,z2i hc]
  ·rintro ⟨d,c',_⟩ b (rfl:c'=c) hb
   simp only[zta,zzl hc]at hb
   cases hq:decide (d≤109572) with
   |false=>rw[hq]at hb;cases hb
   |true=>
    rw[hq]at hb
    simp only[cond_true]at hb
    cases ho:zmd c' d with
    |true=>rw[ho]at hb;cases hb
    |false=>rw[ho]at hb;cases hb;rfl
 unfold qa4 qb1
 rw[h]
 try rfl
theorem zaub {c:Calendar} (hc:CalOk c) (d:Int):qbt c d=qbv c d:=by
 have h:∀d0:Int,zad ztb (d0,c,())=zad znt (d0,c,()):=fun d0=>by
  refine zii (fun a=>a.2.1=c) ?_ ?_ rfl
  ·rintro ⟨d,c',_⟩ (rfl:c'=c)
   simp only[ztb,znt,zzl hc,z2i hc]
  ·rintro ⟨d,c',_⟩ b (rfl:c'=c) hb
   simp only[ztb,zzl hc]at hb
   cases hq:decide (0≤d) with
   |false=>rw[hq]at hb;cases hb
   |true=>
    rw[hq]at hb
    simp only[cond_true]at hb
    cases ho:zmd c' d with
    |true=>rw[ho]at hb;cases hb
    |false=>rw[ho]at hb;cases hb;rfl
 unfold qbt qbv
 rw[h]
 try rfl
end Go.Proofs.YtdahfgialanmpaaGreatDoor
namespace Go.Proofs.YtdahfgialanmpaaGreatDoor
open Ev
open Go (IntKind)
theorem z2y {α β:Type} {step:α→Option (α⊕β)} (Inv:α→Prop) (hi:∀a b,Inv a→step a=some (.inl b)→Inv b) {a:α} (ha:Inv a) {r:β} (h:zad step a=some r):∃b,Inv b∧step b=some (.inr r):=by
 have key:∀n a,Inv a→za8 step n a=some r→∃b,Inv b∧step b=some (.inr r):=by
  intro n
  induction n with
  |zero=>intro a _ h;cases h
  |succ n ih=>
   intro a ha h
   simp only[za8]at h
   cases hs:step a with
   |none=>rw[hs]at h;cases h
   |some x=>
    rw[hs]at h
    cases x with
    |inl b=>exact ih b (hi a b ha hs) h
    |inr b=>cases h;exact ⟨a,ha,hs⟩
 exact key FUEL a ha h
theorem zatz {c:Calendar} (hc:CalOk c) {s d:Int} (hs:s≤109573) (h:qb1 c s=some (d,0)):s≤d:=by
 unfold qb1 at h
 cases hw:zad zhk ((if s<0 then 0 else s),c,()) with
 |none=>rw[hw]at h;cases h
 |some r=>
  rw[hw]at h
  obtain ⟨b,hb,hstep⟩:=z2y (fun a=>s≤a.1∧0≤a.1∧a.1≤109573∧a.2.1=c) (by
   rintro ⟨d,c',_⟩ b ⟨h1,h2,h3,(rfl:c'=c)⟩ hb
   simp only[zhk,z2i hc]at hb
   cases hq:decide (d≤109572) with
   |false=>rw[hq]at hb;cases hb
   |true=>
    rw[decide_eq_true_eq]at hq
    rw[show decide (d≤109572)=true by rw[decide_eq_true_eq];exact hq]at hb
    simp only[cond_true]at hb
    cases ho:zmd c' d with
    |true=>rw[ho]at hb;cases hb
    |false=>
     rw[ho]at hb
     simp only[cond_false]at hb
     simp only at h1 h2
     rw[zc1 (by omega) (by omega)]at hb
     cases hb
     exact ⟨by show s≤d+1;omega,by show 0≤d+1;omega,by show d+1≤109573;omega,rfl⟩) (a:=((if s<0 then 0 else s),c,())) ⟨by show s≤if s<0 then 0 else s;split<;>omega,by show 0≤if s<0 then 0 else s;split<;>omega,by show (if s<0 then 0 else s)≤109573;split<;>omega,rfl⟩ hw
  obtain ⟨d',c',_⟩:=b
  obtain ⟨h1,h2,h3,(rfl:c'=c)⟩:=hb
  simp only[zhk,z2i hc]at hstep
  cases hq:decide (d'≤109572) with
  |false=>rw[hq]at hstep;cases hstep;cases h
  |true=>
   rw[hq]at hstep
   simp only[cond_true]at hstep
   cases ho:zmd c' d' with
   |true=>rw[ho]at hstep;cases hstep;cases h;exact h1
   |false=>rw[ho]at hstep;cases hstep
theorem z8u {r:Rule} {c:Calendar} (hc:CalOk c) (hr:zlh r=true) (day u:Int):qc2 r c day u=qf2 r c day u:=by
 have hd:0≤r.Days∧r.Days≤365:=by
  unfold zlh at hr
  simp only[Bool.and_eq_true,zb7]at hr
  omega
 unfold qc2 qf2
 simp -zeta only[za1p,z8q,k_or,za7]
 cases h1:rng 0 109572 day with
 |false=>rfl
 |true=>
  cases h2:rng 0 109572 u with
  |false=>rfl
  |true=>
   have hday:=zb7.1 h1
   have hu:=zb7.1 h2
   dsimp only
   simp only[Bool.not_true,Bool.or_self,cond_false]
   cases h3:r.Days==0 with
   |true=>simp only[Bool.true_or,cond_true];cases decide (0<r.Fixed)<;>rfl
   |false=>
    have hd1:r.Days≠0:=by simpa using h3
    simp only[Bool.false_or,cond_false]
    have core:∀last:Int,last≤109572→
     (bif decide (last≤day) then (some (0,15):Option (Int×Int)) else match qa4 c (if last<wr .i64 (day+r.Days) then last else wr .i64 (day+r.Days)) with
      |some (r7,r8)=>(bif (r8==0&&decide (r7≤last)) then some (r7,0) else match qbt c last with
       |some (r11,r12)=>(bif (!(r12==0)||decide (r11≤day)) then some (0,15) else some (r11,0))
       |none=>none)
      |none=>none) =
     (bif decide (last≤day) then (some (0,15):Option (Int×Int)) else match qb1 c (if last<wr .i64 (day+r.Days) then last else wr .i64 (day+r.Days)) with
      |some (r6,r7)=>(bif (!(r7==0)||decide (last<r6)) then (match qbv c last with
       |some (r10,r11)=>(bif (!(r11==0)||decide (r10≤day)) then some (0,15) else some (r10,0))
       |none=>none) else (bif (!(r7==0)||decide (r6≤day)) then some (0,15) else some (r6,0)))
      |none=>none):=by
     intro last hlast
     cases h4:decide (last≤day) with
     |true=>rfl
     |false=>
      rw[decide_eq_false_iff_not]at h4
      simp only[cond_false,zat9 hc,zaub hc]
      rw[zc1 (n:=day+r.Days) (by omega) (by omega)]
      cases hn:qb1 c (if last<day+r.Days then last else day+r.Days) with
      |none=>rfl
      |some p=>
       obtain ⟨d,e⟩:=p
       dsimp only
       by_cases he:e=0
       ·subst he
        have hge:=zatz hc (by split<;>omega) hn
        have hgt:¬d≤day:=by split at hge<;>omega
        have e1:decide (d≤day)=false:=by rw[decide_eq_false_iff_not];exact hgt
        have e2:decide (last<d)=!(decide (d≤last)):=by
         rw[Bool.eq_iff_iff];simp
        rw[e1,e2]
        cases decide (d≤last)<;>rfl
       ·have e1:(e==0)=false:=by simpa using he
        rw[e1]
        try rfl
    cases decide (0<r.Fixed) with
    |true=>exact core _ (by split<;>omega)
    |false=>exact core _ (by omega)
end Go.Proofs.YtdahfgialanmpaaGreatDoor
namespace Go.Proofs.YtdahfgialanmpaaGreatDoor
open Ev
open Go (IntKind)
theorem zpj {l:List Loan} {item:Int} (hl:l.length<1000000000):qbl (fun (g:Unit×Int×Unit) x0=>qci x0 g.2.1) l ((),(item,())) =
 some (match l.find? (fun n=>n.Item==item) with|some x=>(x,fIdx (fun n=>n.Item==item) l)|none=>((⟨0,0,0,0,0,false⟩:Loan),-1)):=by
 unfold qbl
 rw[zalw (p:=fun (g:Unit×Int×Unit) x0=>qci x0 g.2.1) (g:=((),(item,()))) (fun x=>x.Item==item) hl (fun x _=>rfl)]
 rcases za6 (fun x:Loan=>x.Item==item) l with ⟨h1,h2⟩|⟨i,x,h1,h2,h3,h4⟩
 ·simp only[h1,h2,zg6,cond_true]
 ·simp only[h1,h4,zg5,cond_false,zah,h2]
theorem zalk {l:List Loan} (hl:l.length<1000000000):qcl l=some (bif !(zbn l==0) then ([],zbn l) else (l,0)):=by
 unfold qcl
 rw[za1s hl]
 cases h:zbn l==0<;>simp[h]
theorem za2g {l:List Loan} (hl:l.length<1000000000):qfb l=some (bif !(zbn l==0) then ([],zbn l) else (l,0)):=by
 unfold qfb
 rw[zak7 hl]
 cases h:zbn l==0<;>simp[h]
def zbl (c:Circ) (l:List Loan):Circ:=⟨c.Today,c.Items,c.Patrons,l,c.Holds,c.Charges,c.Rules,c.Cals,c.Moves,c.NextHold,c.NextCharge,c.Local⟩
theorem zow (c:Circ) (l:List Loan):qco l 0 ⟨c,0⟩=some ((),⟨zbl c l,0⟩):=rfl
theorem zl5 (c:Circ) (l:List Loan) (e:Int) (he:e≠0):qco l e ⟨c,0⟩=some ((),⟨zbl c c.Loans,e⟩):=by
 have h:(e==0)=false:=by simpa using he
 unfold qco qt
 simp only[h,Bool.not_false,cond_true,beq_self_eq_true,cond_false]
 try rfl
theorem za2h (h:Hold) (x:Item):qfg h x=some (h.Record==x.Record&&(h.Item==0||h.Item==x.ID)):=by
 unfold qfg
 simp -zeta only[k_or,za7]
 try rfl
end Go.Proofs.YtdahfgialanmpaaGreatDoor
namespace Go.Proofs.YtdahfgialanmpaaGreatDoor
open Ev
open Go (IntKind)
structure FitP (c:Circ):Prop where
 charges:zch c.Charges=0
 loans:zbn c.Loans=0
 holds:zdz c.Holds=0
 rules:zgg c.Rules=0
 patrons:zfb c.Patrons=0
 cal0:CalOk c.Cals.x0
 cal1:CalOk c.Cals.x1
 cal2:CalOk c.Cals.x2
 cal3:CalOk c.Cals.x3
 items:zri c=true
 loanG:∀n∈c.Loans,zhh c n=true
 itemG:∀x∈c.Items,(zuu c.Loans x.ID).2=zte x.Custody
 holdG:∀h∈c.Holds,zhc c h=true
 readyG:∀x∈c.Items,zf7 c x=true
 nums:zpw c=true
theorem fitP {c:Circ} (h:zn0 c=true):FitP c:=by
 unfold zn0 at h
 rw[zrj]at h
 simp only[Bool.and_eq_true]at h
 obtain ⟨h1,h2,h3,h4,h5,h6,h7⟩:=h
 unfold zj8 at h2
 simp only[Bool.not_eq_true',Bool.or_eq_false_iff,Bool.not_eq_false',beq_iff_eq]at h2
 unfold zg3 at h3
 simp only[Bool.and_eq_true]at h3
 unfold zf0 at h6
 unfold zfx at h7
 simp only[Bool.and_eq_true,List.all_eq_true,beq_iff_eq]at h6 h7
 exact ⟨h2.1.2,h2.1.1.1.2,h2.1.1.2,h2.2,h2.1.1.1.1,zacg h3.1,zacg h3.2.1,zacg h3.2.2.1,zacg h3.2.2.2,h5,h6.1,h6.2,h7.1,h7.2,h1⟩
theorem zof {c:Circ} (h:FitP c) (b:Int):CalOk (calS c b):=by
 unfold calS
 cases b==1 with
 |true=>exact h.cal0
 |false=>
  cases b==2 with
  |true=>exact h.cal1
  |false=>
   cases b==3 with
   |true=>exact h.cal2
   |false=>exact h.cal3
theorem z87 {c:Circ} (h:FitP c) {r:Rule} (hr:r∈c.Rules):zlh r=true:=by
 have h:=h.rules
 unfold zgg at h
 rw[zdp h (by decide)]at h
 obtain ⟨i,hi⟩:=List.getElem?_of_mem hr
 have:=zjz (k:=0) h i r hi
 rw[Nat.zero_add]at this
 unfold zgx at this
 have:=zdp this (by decide)
 simpa using this
def zfg (c:Custody):Prop:=rng 1 4 c.Branch=true
theorem zti {c:Custody} (h:zk8 c=true):zfg c:=by
 unfold zk8 at h
 unfold zfg
 cases hq:(decide (c.State<1)||decide (12<c.State)||decide (c.Branch<1)||decide (4<c.Branch)) with
 |true=>rw[hq]at h;cases h
 |false=>
  simp only[Bool.or_eq_false_iff,decide_eq_false_iff_not]at hq
  rw[zb7];omega
theorem zp8 {m:Move} (h:zp0 m=true):rng 1 4 m.Branch=true:=by
 unfold zp0 at h
 simp only[Bool.and_eq_true,decide_eq_true_eq]at h
 rw[zb7];omega
theorem zoc {c:Custody} {m:Move} (h:((zbo c m).2==0)=true):zfg (zbo c m).1:=by
 unfold zbo at h ⊢
 cases e1:(!(zk8 c)||!(zp0 m)) with
 |true=>rw[e1]at h;cases h
 |false=>
  have e0:=e1
  simp only[Bool.or_eq_false_iff,Bool.not_eq_false']at e0
  have b1:=zti e0.1
  have b2:=zp8 e0.2
  rw[e1]at h
  simp only[cond_false]at h ⊢
  cases e2:!(zmn c.State m.Kind) with
  |true=>rw[e2]at h;cases h
  |false=>
   rw[e2]at h
   simp only[cond_false]at h ⊢
   cases e3:(m.Kind==3&&c.State==5&&!(m.Who==c.Who)) with
   |true=>rw[e3]at h;cases h
   |false=>
    rw[e3]at h
    simp only[cond_false]at h ⊢
    cases e4:!(zagt c m) with
    |true=>rw[e4]at h;cases h
    |false=>
     simp only[cond_false]
     cases (zex m.Kind==2) with
     |true=>exact b2
     |false=>
      simp only[cond_false]
      cases (zex m.Kind==4||(zex m.Kind==5||zex m.Kind==8)) with
      |true=>exact b1
      |false=>
       simp only[cond_false]
       cases e5:(zex m.Kind==6) with
       |true=>exact b1
       |false=>
        simp only[cond_false]
        cases (zex m.Kind==9||zex m.Kind==10) with
        |true=>exact b1
        |false=>exact b1
theorem zmg:∀{l:List Move} {i:Nat} {item:Int} {c d:Custody},zfg c→zdf i l item c=.inl d→zfg d:=by
 intro l
 induction l with
 |nil=>intro i item c d hc h;simp only[zdf]at h;cases h;exact hc
 |cons x l ih=>
  intro i item c d hc h
  simp only[zdf]at h
  cases e:x.Item==item with
  |false=>rw[e]at h;exact ih hc h
  |true=>
   rw[e]at h
   simp only[cond_true]at h
   cases e2:(zbo c x).2==0 with
   |true=>rw[e2]at h;exact ih (zoc e2) h
   |false=>rw[e2]at h;cases h
theorem zlf {c:Circ} {x:Item} (h:zcy c x=true):zfg x.Custody:=by
 unfold zcy at h
 simp only[Bool.not_eq_true',Bool.or_eq_false_iff,Bool.not_eq_false',beq_iff_eq]at h
 obtain ⟨h1,h2⟩:=h
 have e:=zjx.1 h2
 rw[←e]
 unfold zee at h1 ⊢
 cases hb:(decide (x.Branch<1)||decide (4<x.Branch)) with
 |true=>rw[hb]at h1;cases h1
 |false=>
  rw[hb]at h1
  simp only[cond_false]at h1 ⊢
  have hb2:zfg (zvm x.Branch):=by
   simp only[Bool.or_eq_false_iff,decide_eq_false_iff_not]at hb
   show rng 1 4 x.Branch=true
   rw[zb7];omega
  cases hr:zdf 0 c.Moves x.ID (zvm x.Branch) with
  |inl d=>exact zmg hb2 hr
  |inr p=>
   rw[hr]at h1
   exfalso
   obtain ⟨i,e⟩:=p
   simp only at h1
   have key:∀(l:List Move) (i:Nat) (c:Custody) (p:Int×Int),zdf i l x.ID c=.inr p→p.2≠0:=by
    intro l
    induction l with
    |nil=>intro i c p h;simp only[zdf]at h;cases h
    |cons y l ih=>
     intro i c p h
     simp only[zdf]at h
     cases e:y.Item==x.ID with
     |false=>rw[e]at h;exact ih _ _ _ h
     |true=>
      rw[e]at h
      simp only[cond_true]at h
      cases e2:(zbo c y).2==0 with
      |true=>rw[e2]at h;exact ih _ _ _ h
      |false=>rw[e2]at h;cases h;simpa using e2
   exact key _ _ _ _ hr h1
theorem z0w {c:Circ} (h:FitP c) {x:Item} (hx:x∈c.Items):rng 1 4 x.Custody.Branch=true:=zlf (zrk h.items hx)
theorem zaej {l:List Patron} {id:Int} {p:Patron} (h:getP l id=(p,true)):p∈l∧p.ID=id:=by
 unfold getP at h
 cases hp:l.find? (fun p=>p.ID==id) with
 |none=>rw[hp]at h;cases h
 |some q=>rw[hp]at h;cases h;exact ⟨List.mem_of_find?_eq_some hp,by have:=List.find?_some hp;simpa using this⟩
theorem z3r {l:List Rule} {p it br:Int}:zfr l (zacd l p it br):=by
 have key:∀(m:List Rule) (i:Nat) (b:Int),i+m.length=l.length→zfr l b→zfr l (zcz (σ:=Int) (β:=Int) (fun i x b=>.inl (zqj l p it br i x b)) (fun b=>b) i m b):=by
  intro m
  induction m with
  |nil=>intro i b _ h;exact h
  |cons x m ih=>intro i b hi h;simp only[zcz];simp only[List.length_cons]at hi;exact ih _ _ (by omega) (zjb h (by omega))
 exact key l 0 (-1) (by omega) (.inl (by omega))
theorem zauk {c:Circ} (hs:Short c) {p:Int} {x:Item}:∃r b,qfz c p x=some (r,b)∧(b=true→r∈c.Rules):=by
 unfold qfz
 rw[zf5 hs.patrons]
 dsimp only
 cases (getP c.Patrons p).2 with
 |false=>exact ⟨_,false,rfl,fun h=>by cases h⟩
 |true=>
  simp only[Bool.not_true,cond_false]
  unfold qf1
  rw[zalh hs.rules]
  dsimp only
  rcases z3r (l:=c.Rules) (p:=(getP c.Patrons p).1.Kind) (it:=x.Kind) (br:=x.Branch) with h|⟨k,hk,hlt⟩
  ·rw[show decide (zacd c.Rules (getP c.Patrons p).1.Kind x.Kind x.Branch<0)=true by rw[decide_eq_true_eq];exact h]
   exact ⟨_,false,rfl,fun h=>by cases h⟩
  ·rw[hk,show decide ((k:Int)<0)=false by rw[decide_eq_false_iff_not];omega]
   simp only[cond_false,zah,List.getElem?_eq_getElem hlt]
   exact ⟨_,true,rfl,fun _=>List.getElem_mem hlt⟩
end Go.Proofs.YtdahfgialanmpaaGreatDoor
namespace Go.Proofs.YtdahfgialanmpaaGreatDoor
open Ev
open Go (IntKind)
theorem zjt {c:Circ} {l:List Loan} (hs:Short c) (hl:l.length<1000000000):Short (zbl c l):=by
 obtain ⟨h1,h2,h3,h4,h5,h6,h7,h8,h9,h10,h11,h12,h13⟩:=hs
 exact ⟨h1,h2,hl,h4,h5,h6,h7,h8,h9,h10,h11,h12,h13⟩
theorem zij {α β:Type} {step:α→Option (α⊕β)} (Inv:α→Prop) (μ:α→Nat) (h:∀a,Inv a→(∃a',step a=some (.inl a')∧Inv a'∧μ a'<μ a)∨∃b,step a=some (.inr b)) {a:α} (ha:Inv a) (hm:μ a<FUEL):∃r,zad step a=some r:=by
 have key:∀n a,Inv a→μ a<n→∃r,za8 step n a=some r:=by
  intro n
  induction n with
  |zero=>intro a _ h;omega
  |succ n ih=>
   intro a hi hn
   simp only[za8]
   rcases h a hi with ⟨a',h1,h2,h3⟩|⟨b,h1⟩
   ·rw[h1];exact ih a' h2 (by omega)
   ·rw[h1];exact ⟨b,rfl⟩
 exact key FUEL a ha hm
theorem z8c {c:Calendar} (hc:CalOk c) (d:Int):∃a b,qb1 c d=some (a,b):=by
 obtain ⟨r,hr⟩:=zij (step:=zhk) (fun a=>0≤a.1∧a.2.1=c) (fun a=>(109573-a.1).toNat) (by
  rintro ⟨d,c',_⟩ ⟨h0,(rfl:c'=c)⟩
  simp only at h0
  simp only[zhk,z2i hc]
  by_cases hq:d≤109572
  ·rw[show decide (d≤109572)=true by rw[decide_eq_true_eq];exact hq]
   simp only[cond_true]
   cases zmd c' d with
   |true=>exact .inr ⟨_,rfl⟩
   |false=>
    simp only[cond_false]
    rw[zc1 (by omega) (by omega)]
    exact .inl ⟨_,rfl,⟨by show 0≤d+1;omega,rfl⟩,by show (109573-(d+1)).toNat<(109573-d).toNat;omega⟩
  ·rw[show decide (d≤109572)=false by rw[decide_eq_false_iff_not];exact hq]
   exact .inr ⟨_,rfl⟩) (a:=((if d<0 then 0 else d),c,())) ⟨by show 0≤if d<0 then 0 else d;split<;>omega,rfl⟩ (by rw[za2];show (109573-if d<0 then 0 else d).toNat<_;split<;>omega)
 unfold qb1
 rw[hr]
 rcases r with _|⟨a,b,_⟩
 ·exact ⟨_,_,rfl⟩
 ·exact ⟨_,_,rfl⟩
theorem ztz {c:Calendar} (hc:CalOk c) (d:Int):∃a b,qbv c d=some (a,b):=by
 obtain ⟨r,hr⟩:=zij (step:=znt) (fun a=>a.1≤109572∧a.2.1=c) (fun a=>(a.1+1).toNat) (by
  rintro ⟨d,c',_⟩ ⟨h0,(rfl:c'=c)⟩
  simp only at h0
  simp only[znt,z2i hc]
  by_cases hq:0≤d
  ·rw[show decide (0≤d)=true by rw[decide_eq_true_eq];exact hq]
   simp only[cond_true]
   cases zmd c' d with
   |true=>exact .inr ⟨_,rfl⟩
   |false=>
    simp only[cond_false]
    rw[zc1 (by omega) (by omega)]
    exact .inl ⟨_,rfl,⟨by show d-1≤109572;omega,rfl⟩,by show (d-1+1).toNat<(d+1).toNat;omega⟩
  ·rw[show decide (0≤d)=false by rw[decide_eq_false_iff_not];exact hq]
   exact .inr ⟨_,rfl⟩) (a:=((if 109572<d then 109572 else d),c,())) ⟨by show (if 109572<d then 109572 else d)≤109572;split<;>omega,rfl⟩ (by rw[za2];show ((if 109572<d then 109572 else d)+1).toNat<_;split<;>omega)
 unfold qbv
 rw[hr]
 rcases r with _|⟨a,b,_⟩
 ·exact ⟨_,_,rfl⟩
 ·exact ⟨_,_,rfl⟩
theorem zdj {α β:Type} {b:Bool} {x y:Option (α×β)} (hx:∃u v,x=some (u,v)) (hy:∃u v,y=some (u,v)):∃u v,(bif b then x else y)=some (u,v):=by
 cases b
 ·exact hy
 ·exact hx
theorem zw9 {r:Rule} {c:Calendar} (hc:CalOk c) (day u:Int):∃a b,qf2 r c day u=some (a,b):=by
 have core:∀last:Int,∃a b,(bif decide (last≤day) then (some (0,15):Option (Int×Int)) else match qb1 c (if last<wr .i64 (day+r.Days) then last else wr .i64 (day+r.Days)) with
  |some (r6,r7)=>(bif (!(r7==0)||decide (last<r6)) then (match qbv c last with
   |some (r10,r11)=>(bif (!(r11==0)||decide (r10≤day)) then some (0,15) else some (r10,0))
   |none=>none) else (bif (!(r7==0)||decide (r6≤day)) then some (0,15) else some (r6,0)))
  |none=>none)=some (a,b):=by
  intro last
  refine zdj ⟨_,_,rfl⟩ ?_
  obtain ⟨a,b,h⟩:=z8c hc (if last<wr .i64 (day+r.Days) then last else wr .i64 (day+r.Days))
  obtain ⟨a2,b2,h2⟩:=ztz hc last
  rw[h,h2]
  simp only
  exact zdj (zdj ⟨_,_,rfl⟩ ⟨_,_,rfl⟩) (zdj ⟨_,_,rfl⟩ ⟨_,_,rfl⟩)
 unfold qf2
 simp -zeta only[z8q,k_or,za7]
 dsimp only
 refine zdj ⟨_,_,rfl⟩ (zdj ⟨_,_,rfl⟩ ?_)
 refine zdj ?_ ?_
 ·exact core _
 ·exact core _
def z2z (a b:Option (Circ×Int×Int)):Prop:=∃c n e,a=some (c,n,e)∧b=some (c,n,e)∧Short c
theorem zck {e:Int}:z2z (some (zeo,0,e)) (some (zeo,0,e)):=⟨_,_,_,rfl,rfl,zs7⟩
end Go.Proofs.YtdahfgialanmpaaGreatDoor
namespace Go.Proofs.YtdahfgialanmpaaGreatDoor
open Ev
open Go (IntKind)
def getH (l:List Hold) (id:Int):Hold×Bool:=match l.find? (fun h=>h.ID==id) with|some h=>(h,true)|none=>(zhi,false)
theorem za13 {l:List Hold} {id:Int} (hl:l.length<1000000000):qd1 l id=some (getH l id):=by
 unfold qd1 qa8 getH
 rw[zzk (p:=fun (g:Unit×Int×Unit) x0=>qef x0 g.2.1) (g:=((),(id,()))) (fun x=>x.ID==id) hl (fun x _=>rfl)]
 rcases za6 (fun x:Hold=>x.ID==id) l with ⟨h1,h2⟩|⟨i,x,h1,h2,h3,h4⟩
 ·simp only[h1,h2]
  try rfl
 ·have d:decide ((0:Int)≤(i:Int))=true:=by rw[decide_eq_true_eq];omega
  simp only[h1,h4,d,cond_true,zah,h2]
theorem z8o {l:List Hold} {id:Int} (hl:l.length<1000000000):qat l id=some (getH l id):=by
 unfold qat getH
 have h:=zbm (step:=zno) (fun i=>(l,id,(i:Int),zhi,())) l (fun x=>x.ID==id) (fun _ x=>(.inr (true,x,()):(Hold×Unit)⊕(Bool×Hold×Unit))) (.inl (zhi,())) hl
  (by simp only[zno,dge,cond_false])
  (fun i x hx=>by
   have hi:=(List.getElem?_eq_some_iff.1 hx).1
   simp only[zno,dlt hi,zah,hx,cond_true,zam (show i<9223372036854775807 by omega)])
 rw[show zad zno (l,id,0,(⟨0,0,0,0,0,0,0,0,0,0,0⟩:Hold),())=_ from h,zmx]
 cases l.find? (fun x=>x.ID==id)<;>rfl
end Go.Proofs.YtdahfgialanmpaaGreatDoor
namespace Go.Proofs.YtdahfgialanmpaaGreatDoor
open Ev
open Go (IntKind)
def zasq (h:Hold) (x:Item):Bool:=h.Record==x.Record&&(h.Item==0||h.Item==x.ID)
theorem za10 (h:Hold) (x:Item):qck h x=some (zasq h x):=by
 unfold qck zasq
 simp -zeta only[k_or,za7]
 try rfl
end Go.Proofs.YtdahfgialanmpaaGreatDoor
namespace Go.Proofs.YtdahfgialanmpaaGreatDoor
open Ev
open Go (IntKind)
def insW {X:Type} (lt:X→X→Bool) (y:X):List X→List X→List X
 | [],rest=>y::rest
 |z::zs,rest=>bif lt y z then insW lt y zs (z::rest) else zs.reverse++z::y::rest
theorem z6f {X:Type} {lt:X→X→Bool} {y:X}:∀{r rest more:List X},insW lt y r (rest++more)=insW lt y r rest++more:=by
 intro r
 induction r with
 |nil=>intro rest more;rfl
 |cons z zs ih=>
  intro rest more
  simp only[insW]
  cases lt y z with
  |true=>simp only[cond_true];rw[←List.cons_append,ih]
  |false=>simp
theorem z02 {X:Type} {lt:X→X→Bool} {y:X}:∀{B A rest:List X},(∀b∈B,lt y b=true)→(∀a∈A,lt y a=false)→insW lt y (B++A) rest=A.reverse++y::(B.reverse++rest):=by
 intro B
 induction B with
 |nil=>
  intro A rest _ hA
  cases A with
  |nil=>rfl
  |cons a A=>simp only[List.nil_append,insW,hA a (List.mem_cons_self ..),cond_false,List.reverse_cons,List.append_assoc,List.reverse_nil];rfl
 |cons b B ih=>
  intro A rest hB hA
  simp only[List.cons_append,insW,hB b (List.mem_cons_self ..),cond_true]
  rw[ih (fun b hb=>hB b (List.mem_cons_of_mem _ hb)) hA]
  simp
section
variable {γ:Type} {p:γ→Hold→Hold→Option Int} {g:γ} {lt:Hold→Hold→Bool}
theorem zass (hp:∀y z,∃n,p g y z=some n∧decide (n<0)=lt y z) {b i:Int}:∀(r:List Hold) (y:Hold) (rest:List Hold),r.length<1000000→
 za8 (z2d p) (r.length+1) (0,b,g,i,(r.length:Int),r.reverse++y::rest,())=some (0,b,g,i,insW lt y r rest,()):=by
 intro r
 induction r with
 |nil=>
  intro y rest _
  simp only[List.length_nil,za8,insW,z2d]
  try rfl
 |cons z zs ih=>
  intro y rest hl
  simp only[List.length_cons]at hl
  obtain ⟨n,h1,h2⟩:=hp y z
  have d:decide ((0:Int)<((zs.length+1:Nat):Int))=true:=by rw[decide_eq_true_eq];omega
  have w:=zgb (j:=zs.length) (by omega)
  have e:(z::zs).reverse++y::rest=zs.reverse++z::y::rest:=by simp
  have gy:(zs.reverse++z::y::rest)[zs.length+1]?=some y:=by rw[List.getElem?_append_right (by simp)];simp
  have gz:(zs.reverse++z::y::rest)[zs.length]?=some z:=by rw[List.getElem?_append_right (by simp)];simp
  have s1:(zs.reverse++z::y::rest).set (zs.length+1) z=zs.reverse++z::z::rest:=by
   rw[List.set_append_right _ _ (by simp)];simp
  have gz2:(zs.reverse++z::z::rest)[zs.length]?=some z:=by rw[List.getElem?_append_right (by simp)];simp
  have s2:(zs.reverse++z::z::rest).set zs.length y=zs.reverse++y::z::rest:=by
   rw[List.set_append_right _ _ (by simp)];simp
  rw[za8,e]
  simp only[List.length_cons,z2d,d,cond_true,w,zah,Int.toNat_natCast,gy,gz,h1,h2,s1,gz2,s2,insW]
  cases lt y z with
  |true=>simp only[cond_true];exact ih y (z::rest) (by omega)
  |false=>rfl
def zfe (lt:Hold→Hold→Bool) (l:List Hold):List Hold:=l.foldl (fun pre y=>insW lt y pre.reverse []) []
theorem zgh {l:List Hold} {y:Hold}:zfe lt (l++[y])=insW lt y (zfe lt l).reverse []:=by
 unfold zfe
 rw[List.foldl_append];rfl
theorem zux {y:Hold}:∀{r rest:List Hold},(insW lt y r rest).length=r.length+1+rest.length:=by
 intro r
 induction r with
 |nil=>intro rest;simp[insW];omega
 |cons z zs ih=>
  intro rest
  simp only[insW]
  cases lt y z with
  |true=>simp only[cond_true];rw[ih];simp;omega
  |false=>simp;omega
theorem ztp:∀{l:List Hold},(zfe lt l).length=l.length:=by
 have key:∀(l pre:List Hold),(l.foldl (fun pre y=>insW lt y pre.reverse []) pre).length=pre.length+l.length:=by
  intro l
  induction l with
  |nil=>intro pre;rfl
  |cons y l ih=>intro pre;rw[List.foldl_cons,ih,zux];simp;omega
 intro l
 unfold zfe
 rw[key];simp
theorem zahc (hp:∀y z,∃n,p g y z=some n∧decide (n<0)=lt y z) {l:List Hold} (hl:l.length<1000000):∀(k i:Nat),i+k=l.length→
 za8 (z2c p) (k+1) (0,(l.length:Int),g,(i:Int),zfe lt (l.take i)++l.drop i,())=some (zfe lt l,()):=by
 intro k
 induction k with
 |zero=>
  intro i hi
  have:i=l.length:=by omega
  subst this
  have d:decide ((l.length:Int)<(l.length:Int))=false:=by rw[decide_eq_false_iff_not];omega
  simp only[za8,z2c,d,cond_false,List.take_length,List.drop_length,List.append_nil]
 |succ k ih=>
  intro i hi
  have hlt:i<l.length:=by omega
  have d:decide ((i:Int)<(l.length:Int))=true:=by rw[decide_eq_true_eq];omega
  have hlen:(zfe lt (l.take i)).length=i:=by rw[ztp,List.length_take];omega
  have hr:=zass (p:=p) (g:=g) (lt:=lt) hp (b:=(l.length:Int)) (i:=(i:Int)) (zfe lt (l.take i)).reverse l[i] (l.drop (i+1)) (by rw[List.length_reverse,hlen];omega)
  rw[List.length_reverse,List.reverse_reverse,hlen,←List.drop_eq_getElem_cons hlt]at hr
  have hw:zad (z2d p) (0,(l.length:Int),g,(i:Int),(i:Int),zfe lt (l.take i)++l.drop i,())=_:=zba (i+1) (by rw[za2];omega) hr
  rw[za8]
  simp only[z2c,d,cond_true,hw,zam (show i<9223372036854775807 by omega)]
  have e:insW lt l[i] (zfe lt (l.take i)).reverse (l.drop (i+1))=zfe lt (l.take (i+1))++l.drop (i+1):=by
   have:=z6f (lt:=lt) (y:=l[i]) (r:=(zfe lt (l.take i)).reverse) (rest:=[]) (more:=l.drop (i+1))
   rw[List.nil_append]at this
   rw[this,List.take_succ_eq_append_getElem hlt,zgh]
  rw[e]
  exact ih (i+1) (by omega)
theorem zax1 (hp:∀y z,∃n,p g y z=some n∧decide (n<0)=lt y z) {l:List Hold} (hl:l.length<20):qd2 p l g=some (zfe lt l):=by
 have h1:zad (zagu p) ((l.length:Int),g,20,0,20,l,())=some ((l.length:Int),g,20,0,l,()):=by
  refine zba 1 (by rw[za2];omega) ?_
  have d:decide ((20:Int)≤(l.length:Int))=false:=by rw[decide_eq_false_iff_not];omega
  simp only[za8,zagu,d,cond_false]
 have h2:∀m:List Hold,zad (zagv p) ((l.length:Int),g,20,m,())=some (m,()):=fun m=>by
  refine zba 1 (by rw[za2];omega) ?_
  have d:decide ((20:Int)<(l.length:Int))=false:=by rw[decide_eq_false_iff_not];omega
  simp only[za8,zagv,d,cond_false]
 have h3:qq p l 0 (l.length:Int) g=some (zfe lt l):=by
  unfold qq
  have hw:zad (z2c p) (0,(l.length:Int),g,wr .i64 (0+1),l,())=some (zfe lt l,()):=by
   cases l with
   |nil=>
    refine zba 1 (by rw[za2];omega) ?_
    try rfl
   |cons y m=>
    have:=zahc (p:=p) (g:=g) (lt:=lt) hp (l:=y::m) (by omega) m.length 1 (by simp only[List.length_cons];omega)
    exact zba (m.length+1) (by rw[za2];simp only[List.length_cons]at hl;omega) this
  rw[hw]
 unfold qd2 qo
 rw[h1]
 simp only[h3,h2]
end
end Go.Proofs.YtdahfgialanmpaaGreatDoor
namespace Go.Proofs.YtdahfgialanmpaaGreatDoor
open Ev
open Go (IntKind)
def rk (k:Int) (l:List Hold):List Hold:=l.filter (fun x=>x.Rank==k)
def ltR (y z:Hold):Bool:=decide (z.Rank<y.Rank)
def za5 (l:List Hold):List Hold:=rk 9 l++(rk 8 l++(rk 7 l++(rk 6 l++(rk 5 l++(rk 4 l++(rk 3 l++(rk 2 l++(rk 1 l++rk 0 l))))))))
theorem za28 {k:Int} {l:List Hold} {x:Hold} (h:x∈rk k l):x.Rank=k:=by
 unfold rk at h
 rw[List.mem_filter]at h
 simpa using h.2
theorem zey (k:Int) (l:List Hold) (y:Hold):rk k (l++[y])=rk k l++(bif y.Rank==k then [y] else []):=by
 unfold rk
 rw[List.filter_append,List.filter_cons]
 cases y.Rank==k<;>simp
theorem zasr {A B:List Hold} {y:Hold} (hA:∀a∈A,y.Rank≤a.Rank) (hB:∀b∈B,b.Rank<y.Rank):insW ltR y (A++B).reverse []=A++y::B:=by
 rw[List.reverse_append,z02 (by intro b hb;rw[List.mem_reverse]at hb;unfold ltR;rw[decide_eq_true_eq];exact hB b hb) (by intro a ha;rw[List.mem_reverse]at ha;unfold ltR;rw[decide_eq_false_iff_not];have:=hA a ha;omega)]
 simp
theorem zwd:∀(m:List Hold) (l:List Hold),l=m.reverse→(∀x∈l,rng 0 9 x.Rank=true)→zfe ltR l=za5 l:=by
 intro m
 induction m with
 |nil=>intro l h _;subst h;rfl
 |cons y m ih=>
  intro l h hr
  rw[List.reverse_cons]at h
  subst h
  have hy:=zb7.1 (hr y (by simp))
  rw[zgh,ih m.reverse rfl (fun x hx=>hr x (by simp at hx ⊢;exact .inl hx))]
  generalize m.reverse=l
  have hc:y.Rank=0∨y.Rank=1∨y.Rank=2∨y.Rank=3∨y.Rank=4∨y.Rank=5∨y.Rank=6∨y.Rank=7∨y.Rank=8∨y.Rank=9:=by omega
  have mid:∀(A B:List Hold),za5 l=A++B→(∀a∈A,y.Rank≤a.Rank)→(∀b∈B,b.Rank<y.Rank)→insW ltR y (za5 l).reverse []=A++y::B:=fun A B e hA hB=>by rw[e];exact zasr hA hB
  have mm:∀(k:Int) (x:Hold),x∈rk k l→x.Rank=k:=fun k x h=>za28 h
  rcases hc with h|h|h|h|h|h|h|h|h|h
  ·rw[mid (rk 9 l++(rk 8 l++(rk 7 l++(rk 6 l++(rk 5 l++(rk 4 l++(rk 3 l++(rk 2 l++(rk 1 l++rk 0 l))))))))) [] (by simp[za5]) (by intro a ha;simp only[List.mem_append]at ha;rcases ha with h|h|h|h|h|h|h|h|h|h<;>(have:=mm _ _ h;omega)) (by intro b hb;cases hb)]
   simp[za5,zey,h]
  ·rw[mid (rk 9 l++(rk 8 l++(rk 7 l++(rk 6 l++(rk 5 l++(rk 4 l++(rk 3 l++(rk 2 l++rk 1 l)))))))) (rk 0 l) (by simp[za5]) (by intro a ha;simp only[List.mem_append]at ha;rcases ha with h|h|h|h|h|h|h|h|h<;>(have:=mm _ _ h;omega)) (by intro b hb;have:=mm _ _ hb;omega)]
   simp[za5,zey,h]
  ·rw[mid (rk 9 l++(rk 8 l++(rk 7 l++(rk 6 l++(rk 5 l++(rk 4 l++(rk 3 l++rk 2 l))))))) (rk 1 l++rk 0 l) (by simp[za5]) (by intro a ha;simp only[List.mem_append]at ha;rcases ha with h|h|h|h|h|h|h|h<;>(have:=mm _ _ h;omega)) (by intro b hb;simp only[List.mem_append]at hb;rcases hb with h|h<;>(have:=mm _ _ h;omega))]
   simp[za5,zey,h]
  ·rw[mid (rk 9 l++(rk 8 l++(rk 7 l++(rk 6 l++(rk 5 l++(rk 4 l++rk 3 l)))))) (rk 2 l++(rk 1 l++rk 0 l)) (by simp[za5]) (by intro a ha;simp only[List.mem_append]at ha;rcases ha with h|h|h|h|h|h|h<;>(have:=mm _ _ h;omega)) (by intro b hb;simp only[List.mem_append]at hb;rcases hb with h|h|h<;>(have:=mm _ _ h;omega))]
   simp[za5,zey,h]
  ·rw[mid (rk 9 l++(rk 8 l++(rk 7 l++(rk 6 l++(rk 5 l++rk 4 l))))) (rk 3 l++(rk 2 l++(rk 1 l++rk 0 l))) (by simp[za5]) (by intro a ha;simp only[List.mem_append]at ha;rcases ha with h|h|h|h|h|h<;>(have:=mm _ _ h;omega)) (by intro b hb;simp only[List.mem_append]at hb;rcases hb with h|h|h|h<;>(have:=mm _ _ h;omega))]
   simp[za5,zey,h]
  ·rw[mid (rk 9 l++(rk 8 l++(rk 7 l++(rk 6 l++rk 5 l)))) (rk 4 l++(rk 3 l++(rk 2 l++(rk 1 l++rk 0 l)))) (by simp[za5]) (by intro a ha;simp only[List.mem_append]at ha;rcases ha with h|h|h|h|h<;>(have:=mm _ _ h;omega)) (by intro b hb;simp only[List.mem_append]at hb;rcases hb with h|h|h|h|h<;>(have:=mm _ _ h;omega))]
   simp[za5,zey,h]
  ·rw[mid (rk 9 l++(rk 8 l++(rk 7 l++rk 6 l))) (rk 5 l++(rk 4 l++(rk 3 l++(rk 2 l++(rk 1 l++rk 0 l))))) (by simp[za5]) (by intro a ha;simp only[List.mem_append]at ha;rcases ha with h|h|h|h<;>(have:=mm _ _ h;omega)) (by intro b hb;simp only[List.mem_append]at hb;rcases hb with h|h|h|h|h|h<;>(have:=mm _ _ h;omega))]
   simp[za5,zey,h]
  ·rw[mid (rk 9 l++(rk 8 l++rk 7 l)) (rk 6 l++(rk 5 l++(rk 4 l++(rk 3 l++(rk 2 l++(rk 1 l++rk 0 l)))))) (by simp[za5]) (by intro a ha;simp only[List.mem_append]at ha;rcases ha with h|h|h<;>(have:=mm _ _ h;omega)) (by intro b hb;simp only[List.mem_append]at hb;rcases hb with h|h|h|h|h|h|h<;>(have:=mm _ _ h;omega))]
   simp[za5,zey,h]
  ·rw[mid (rk 9 l++rk 8 l) (rk 7 l++(rk 6 l++(rk 5 l++(rk 4 l++(rk 3 l++(rk 2 l++(rk 1 l++rk 0 l))))))) (by simp[za5]) (by intro a ha;simp only[List.mem_append]at ha;rcases ha with h|h<;>(have:=mm _ _ h;omega)) (by intro b hb;simp only[List.mem_append]at hb;rcases hb with h|h|h|h|h|h|h|h<;>(have:=mm _ _ h;omega))]
   simp[za5,zey,h]
  ·rw[mid (rk 9 l) (rk 8 l++(rk 7 l++(rk 6 l++(rk 5 l++(rk 4 l++(rk 3 l++(rk 2 l++(rk 1 l++rk 0 l)))))))) (by simp[za5]) (by intro a ha;have:=mm _ _ ha;omega) (by intro b hb;simp only[List.mem_append]at hb;rcases hb with h|h|h|h|h|h|h|h|h<;>(have:=mm _ _ h;omega))]
   simp[za5,zey,h]
def zcj (record day:Int) (x:Hold):Bool:=x.Record==record&&x.State==1&&decide (x.Asleep≤day)
theorem zabx (record day:Int) (x:Hold):(x.State==1&&x.Record==record&&decide (x.Asleep≤day))=zcj record day x:=by
 unfold zcj
 cases x.Record==record<;>cases x.State==1<;>rfl
theorem z8z (y z:Hold) (hy:rng 0 9 y.Rank=true) (hz:rng 0 9 z.Rank=true):decide (wr .i64 (z.Rank-y.Rank)<0)=ltR y z:=by
 have h1:=zb7.1 hy
 have h2:=zb7.1 hz
 rw[zc1 (by omega) (by omega)]
 unfold ltR
 rw[decide_eq_decide];omega
theorem zaem {lt:Hold→Hold→Bool} {y x:Hold}:∀{r rest:List Hold},x∈insW lt y r rest→x=y∨x∈r∨x∈rest:=by
 intro r
 induction r with
 |nil=>intro rest h;simp only[insW,List.mem_cons]at h;rcases h with h|h<;>simp[h]
 |cons z zs ih=>
  intro rest h
  simp only[insW]at h
  cases hb:lt y z with
  |true=>
   rw[hb]at h
   rcases ih h with h|h|h
   ·exact .inl h
   ·exact .inr (.inl (List.mem_cons_of_mem _ h))
   ·rcases List.mem_cons.1 h with h|h
    ·subst h;exact .inr (.inl (List.mem_cons_self ..))
    ·exact .inr (.inr h)
  |false=>
   rw[hb]at h
   simp only[cond_false,List.mem_append,List.mem_reverse,List.mem_cons]at h
   rcases h with h|h|h|h
   ·exact .inr (.inl (List.mem_cons_of_mem _ h))
   ·subst h;exact .inr (.inl (List.mem_cons_self ..))
   ·exact .inl h
   ·exact .inr (.inr h)
theorem z01 {lt lt':Hold→Hold→Bool} {y:Hold}:∀{r rest:List Hold},(∀z∈r,lt y z=lt' y z)→insW lt y r rest=insW lt' y r rest:=by
 intro r
 induction r with
 |nil=>intros;rfl
 |cons z zs ih=>
  intro rest h
  simp only[insW]
  rw[h z (List.mem_cons_self ..),ih (fun z hz=>h z (List.mem_cons_of_mem _ hz))]
theorem zabq {lt lt':Hold→Hold→Bool}:∀(m l:List Hold),l=m.reverse→(∀x∈l,∀y∈l,lt x y=lt' x y)→zfe lt l=zfe lt' l∧∀x∈zfe lt' l,x∈l:=by
 intro m
 induction m with
 |nil=>intro l h _;subst h;exact ⟨rfl,fun x hx=>by cases hx⟩
 |cons y m ih=>
  intro l h hc
  rw[List.reverse_cons]at h
  subst h
  obtain ⟨e1,e2⟩:=ih m.reverse rfl (fun a ha b hb=>hc a (by simp at ha ⊢;exact .inl ha) b (by simp at hb ⊢;exact .inl hb))
  rw[zgh,zgh,e1]
  refine ⟨z01 (fun z hz=>hc y (by simp) z ?_),fun x hx=>?_⟩
  ·rw[List.mem_reverse]at hz
   have:=e2 z hz
   simp at this ⊢;exact .inl this
  ·rcases zaem hx with h|h|h
   ·subst h;simp
   ·rw[List.mem_reverse]at h
    have:=e2 x h
    simp at this ⊢;exact .inl this
   ·cases h
theorem z2e {l:List Hold} (hl:l.length<20) (hr:∀x∈l,rng 0 9 x.Rank=true):qd2 (fun (g:Unit×Unit) x0 x1=>qca x0 x1) l ((),())=some (za5 l):=by
 rw[zax1 (lt:=fun y z=>decide (wr .i64 (z.Rank-y.Rank)<0)) (fun y z=>⟨_,rfl,rfl⟩) hl]
 congr 1
 rw[(zabq l.reverse l (by simp) (fun x hx y hy=>z8z x y (hr x hx) (hr y hy))).1]
 exact zwd l.reverse l (by simp) hr
end Go.Proofs.YtdahfgialanmpaaGreatDoor
namespace Go.Proofs.YtdahfgialanmpaaGreatDoor
open Ev
open Go (IntKind)
theorem zec {X:Type} (p:X→Bool):∀(l o:List X),l.foldl (fun s y=>bif p y then s++[y] else s) o=o++l.filter p:=by
 intro l
 induction l with
 |nil=>intro o;simp
 |cons x l ih=>intro o;rw[List.foldl_cons,ih,List.filter_cons];cases p x<;>simp
theorem zin {X Y:Type} (p:X→Bool) (f:X→Y):∀(l:List X) (o:List Y),l.foldl (fun s y=>bif p y then s++[f y] else s) o=o++(l.filter p).map f:=by
 intro l
 induction l with
 |nil=>intro o;simp
 |cons x l ih=>intro o;rw[List.foldl_cons,ih,List.filter_cons];cases p x<;>simp
theorem za32 {l:List Hold} {record day:Int} (hl:l.length<1000000) (h20:(l.filter (zcj record day)).length<20) (hr:∀x∈l,rng 0 9 x.Rank=true):qh l record day=some (za5 (l.filter (zcj record day))):=by
 have h:=zbc (step:=z17) (fun (i:Nat) (s:List Hold)=>s.length≤i) (fun i s=>(record,day,l,(l.length:Int),(i:Int),s,())) l
  (fun i y s=>.inl (bif zcj record day y then s++[y] else s)) (fun s=>(s,())) (by rw[za2];omega)
  (fun s _=>by simp only[z17,dge,cond_false])
  (fun i y s hx hi=>by
   have hlt:=(List.getElem?_eq_some_iff.1 hx).1
   have l1:decide (s.length+([y]:List Hold).length≤LIM)=true:=zfn (by simp;omega)
   refine ⟨?_,fun s' hs'=>?_⟩
   ·simp -zeta only[z17,dlt hlt,zah,hx,cond_true,l1,za7,zam (show i<9223372036854775807 by omega)]
    unfold zcj
    dsimp only
    cases (y.Record==record&&y.State==1&&decide (y.Asleep≤day))<;>rfl
   ·cases hs'
    cases zcj record day y<;>simp<;>omega) [] (by simp)
 rw[zcu]at h
 unfold qh
 rw[show zad z17 (record,day,l,(l.length:Int),0,[],())=_ from h,zec,List.nil_append]
 simp only
 rw[z2e h20 (fun x hx=>hr x (List.mem_filter.1 hx).1)]
theorem z8l {l:List Hold} {record day rank:Int} (hl:l.length<1000000) (s:List Int) (hs:s.length<100000000):zad zva (l,record,day,rank,0,s,())=some (l,record,day,rank,s++(rk rank (l.filter (zcj record day))).map (fun x=>x.ID),()):=by
 have h:=zbc (step:=zva) (fun (i:Nat) (o:List Int)=>o.length≤s.length+i) (fun i o=>(l,record,day,rank,(i:Int),o,())) l
  (fun i y o=>.inl (bif zcj record day y&&y.Rank==rank then o++[y.ID] else o)) (fun o=>(l,record,day,rank,o,())) (by rw[za2];omega)
  (fun o _=>by simp only[zva,dge,cond_false])
  (fun i y o hx hi=>by
   have hlt:=(List.getElem?_eq_some_iff.1 hx).1
   have l1:decide (o.length+([y.ID]:List Int).length≤LIM)=true:=zfn (by simp;omega)
   refine ⟨?_,fun s' hs'=>?_⟩
   ·simp -zeta only[zva,dlt hlt,zah,hx,cond_true,l1,za7,zam (show i<9223372036854775807 by omega)]
    dsimp only
    rw[zabx]
    cases (zcj record day y&&y.Rank==rank)<;>rfl
   ·cases hs'
    cases (zcj record day y&&y.Rank==rank)<;>simp<;>omega) s (by omega)
 rw[zcu]at h
 rw[show zad zva (l,record,day,rank,0,s,())=_ from h]
 have e:(fun (s:List Int) (x:Hold)=>bif zcj record day x&&x.Rank==rank then s++[x.ID] else s)=(fun s x=>bif (fun y=>zcj record day y&&y.Rank==rank) x then s++[(fun z:Hold=>z.ID) x] else s):=rfl
 rw[e,zin]
 unfold rk
 rw[List.filter_filter]
 have e2:(fun y:Hold=>zcj record day y&&y.Rank==rank)=(fun a=>a.Rank==rank&&zcj record day a):=by funext y;rw[Bool.and_comm]
 rw[e2]
def dn (q:List Hold):Nat→List Hold
 |0=>[]
 |k+1=>rk (k:Int) q++dn q k
theorem z3v (q:List Hold):za5 q=dn q 10:=by
 simp[za5,dn]
theorem ztj {k:Int} {q:List Hold}:(rk k q).length≤q.length:=List.length_filter_le _ _
theorem za07 {l:List Hold} {record day:Int} (hl:l.length<1000000):∀(k:Nat) (s:List Int),k≤10→s.length+k*1000000<100000000→
 za8 z8k (k+1) (l,record,day,(k:Int)-1,s,())=some (s++(dn (l.filter (zcj record day)) k).map (fun x=>x.ID),()):=by
 intro k
 induction k with
 |zero=>
  intro s _ _
  simp only[za8,dn,List.map_nil,List.append_nil]
  try rfl
 |succ k ih=>
  intro s hk hs
  have e:((k+1:Nat):Int)-1=(k:Int):=by omega
  have hlen:(rk (k:Int) (l.filter (zcj record day))).length≤l.length:=Nat.le_trans ztj (List.length_filter_le _ _)
  rw[za8]
  have d2:decide ((0:Int)≤(k:Int))=true:=by rw[decide_eq_true_eq];omega
  simp only[z8k,d2,cond_true,e,z8l hl s (by omega)]
  rw[zc1 (n:=(k:Int)-1) (by omega) (by omega),ih _ (by omega) (by rw[List.length_append,List.length_map];omega)]
  simp only[dn,List.map_append,List.append_assoc]
theorem za3z {l:List Hold} {record day:Int} (hl:l.length<1000000):q9 l record day=some ((za5 (l.filter (zcj record day))).map (fun x=>x.ID)):=by
 have h:=za07 (record:=record) (day:=day) hl 10 [] (by omega) (by simp)
 unfold q9
 rw[show zad z8k (l,record,day,9,([]:List Int),())=_ from zba 11 (by rw[za2];omega) h,List.nil_append,z3v]
theorem zhq {q:List Hold} {x:Hold} (h:x∈za5 q):x∈q:=by
 have k:∀(k:Int),x∈rk k q→x∈q:=fun k h=>(List.mem_filter.1 h).1
 unfold za5 at h
 simp only[List.mem_append]at h
 rcases h with h|h|h|h|h|h|h|h|h|h<;>exact k _ h
def z1n (branch:Int) (vlocal:Bool) (x:Item) (h:Hold) (first:Int):Int⊕Int:=
 bif !(h.Item==0)&&!(h.Item==x.ID) then .inl first
 else bif !vlocal||h.Pickup==branch then .inr h.ID
 else .inl (bif first==0 then h.ID else first)
def zs9 (branch:Int) (vlocal:Bool) (x:Item) (h:Hold) (first:Int):Int⊕Int:=
 bif !(h.Item==0)&&!(h.Item==x.ID) then .inl first
 else bif vlocal&&h.Pickup==branch then .inr h.ID
 else .inl (bif first==0 then h.ID else first)
def z1o (branch:Int) (vlocal:Bool) (x:Item):List Hold→Int→Int
 | [],first=>first
 |h::q,first=>match z1n branch vlocal x h first with | .inl f=>z1o branch vlocal x q f | .inr r=>r
def zf3 (branch:Int) (vlocal:Bool) (x:Item):List Hold→Int→Int
 | [],first=>first
 |h::q,first=>match zs9 branch vlocal x h first with | .inl f=>zf3 branch vlocal x q f | .inr r=>r
theorem z1p {branch:Int} {x:Item}:∀{q:List Hold} {f:Int},f≠0→zf3 branch false x q f=f:=by
 intro q
 induction q with
 |nil=>intros;rfl
 |cons h q ih=>
  intro f hf
  have h0:(f==0)=false:=by simpa using hf
  simp only[zf3,zs9,Bool.false_and,cond_false,h0]
  cases (!(h.Item==0)&&!(h.Item==x.ID))<;>exact ih hf
theorem z8i {branch:Int} {vlocal:Bool} {x:Item}:∀{q:List Hold} {f:Int},(∀h∈q,h.ID≠0)→(vlocal=false→f=0)→z1o branch vlocal x q f=zf3 branch vlocal x q f:=by
 intro q
 induction q with
 |nil=>intros;rfl
 |cons h q ih=>
  intro f hq hf
  simp only[z1o,zf3,z1n,zs9]
  cases (!(h.Item==0)&&!(h.Item==x.ID)) with
  |true=>exact ih (fun y hy=>hq y (List.mem_cons_of_mem _ hy)) hf
  |false=>
   cases vlocal with
   |true=>
    cases h.Pickup==branch with
    |true=>rfl
    |false=>exact ih (fun y hy=>hq y (List.mem_cons_of_mem _ hy)) (fun e=>by cases e)
   |false=>
    have:=hf rfl
    subst this
    exact (z1p (hq h (List.mem_cons_self ..))).symm
end Go.Proofs.YtdahfgialanmpaaGreatDoor
namespace Go.Proofs.YtdahfgialanmpaaGreatDoor
open Ev
open Go (IntKind)
theorem zxe {l:List Hold} (hsort:∀i x,l[i]?=some x→zb5 l i (fun y=>decide (x.ID≤y.ID))=false) {h:Hold} (hm:h∈l):getH l h.ID=(h,true):=by
 unfold getH
 rw[zwe (key:=fun y:Hold=>y.ID) hsort hm]
theorem z1q {β:Type} {branch:Int} {vlocal:Bool} {x:Item} (fin:Int→β) (out:Int→β) (hfo:∀v:Int,True):∀(q:List Hold) (i:Nat) (f:Int),∃r:Int⊕Int,(match r with | .inl v=>v | .inr v=>v)=z1o branch vlocal x q f∧
 zcz (fun (_:Nat) h f=>match z1n branch vlocal x h f with | .inl f=>.inl f | .inr v=>.inr (out v)) fin i q f=(match r with | .inl v=>fin v | .inr v=>out v):=by
 intro q
 induction q with
 |nil=>intro i f;exact ⟨.inl f,rfl,rfl⟩
 |cons h q ih=>
  intro i f
  simp only[zcz,z1o]
  cases z1n branch vlocal x h f with
  |inl f'=>exact ih (i+1) f'
  |inr v=>exact ⟨.inr v,rfl,rfl⟩
theorem z1r {β:Type} {branch:Int} {vlocal:Bool} {x:Item} (fin:Int→β) (out:Int→β) (hfo:∀v:Int,True):∀(q:List Hold) (i:Nat) (f:Int),∃r:Int⊕Int,(match r with | .inl v=>v | .inr v=>v)=zf3 branch vlocal x q f∧
 zcz (fun (_:Nat) h f=>match zs9 branch vlocal x h f with | .inl f=>.inl f | .inr v=>.inr (out v)) fin i q f=(match r with | .inl v=>fin v | .inr v=>out v):=by
 intro q
 induction q with
 |nil=>intro i f;exact ⟨.inl f,rfl,rfl⟩
 |cons h q ih=>
  intro i f
  simp only[zcz,zf3]
  cases zs9 branch vlocal x h f with
  |inl f'=>exact ih (i+1) f'
  |inr v=>exact ⟨.inr v,rfl,rfl⟩
theorem zg2 {q:List Hold}:(za5 q).length≤10*q.length:=by
 have k:∀n:Int,(rk n q).length≤q.length:=fun n=>ztj
 unfold za5
 simp only[List.length_append]
 have:=k 0;have:=k 1;have:=k 2;have:=k 3;have:=k 4;have:=k 5;have:=k 6;have:=k 7;have:=k 8;have:=k 9
 omega
theorem za1t {l:List Hold} {x:Item} {branch day:Int} {vlocal:Bool} (hl:l.length<1000000) (h20:(l.filter (zcj x.Record day)).length<20) (hr:∀x∈l,rng 0 9 x.Rank=true) :
 qbh l x branch day vlocal=some (z1o branch vlocal x (za5 (l.filter (zcj x.Record day))) 0):=by
 unfold qbh
 rw[za32 hl h20 hr]
 have hq:(za5 (l.filter (zcj x.Record day))).length<1000:=by have:=zg2 (q:=l.filter (zcj x.Record day));omega
 generalize za5 (l.filter (zcj x.Record day))=q at hq ⊢
 have h:=zcs (step:=znr) (fun i f=>(branch,vlocal,f,q,(q.length:Int),(i:Int),x,())) q
  (fun _ h f=>match z1n branch vlocal x h f with | .inl f=>.inl f | .inr v=>.inr (.inr (v,()))) (fun f=>.inl (f,())) (by rw[za2];omega)
  (fun f=>by simp only[znr,dge,cond_false])
  (fun i y f hx=>by
   have hlt:=(List.getElem?_eq_some_iff.1 hx).1
   simp -zeta only[znr,dlt hlt,zah,hx,cond_true,k_or,za7,zam (show i<9223372036854775807 by omega)]
   unfold z1n
   dsimp only
   cases (!(y.Item==0)&&!(y.Item==x.ID)) with
   |true=>rfl
   |false=>
    cases (!vlocal||y.Pickup==branch) with
    |true=>rfl
    |false=>cases f==0<;>rfl) 0
 obtain ⟨r,r1,r2⟩:=z1q (branch:=branch) (vlocal:=vlocal) (x:=x) (fun f=>(.inl (f,()):(Int×Unit)⊕(Int×Unit))) (fun v=>.inr (v,())) (fun _=>trivial) q 0 0
 rw[r2]at h
 simp only
 rw[show zad znr (branch,vlocal,0,q,(q.length:Int),0,x,())=_ from h,←r1]
 cases r<;>rfl
theorem zali {l:List Hold} {x:Item} {branch day:Int} {vlocal:Bool} (hl:l.length<1000000) (hsort:∀i x,l[i]?=some x→zb5 l i (fun y=>decide (x.ID≤y.ID))=false) :
 qby l x branch day vlocal=some (zf3 branch vlocal x (za5 (l.filter (zcj x.Record day))) 0):=by
 unfold qby
 rw[za3z hl]
 have hq:(za5 (l.filter (zcj x.Record day))).length<100000000:=by
  have:=zg2 (q:=l.filter (zcj x.Record day))
  have:=List.length_filter_le (zcj x.Record day) l
  omega
 have hm:∀h∈za5 (l.filter (zcj x.Record day)),h∈l:=fun h hh=>(List.mem_filter.1 (zhq hh)).1
 generalize za5 (l.filter (zcj x.Record day))=q at hq hm ⊢
 have h:=zcs (step:=znu) (fun i f=>(l,branch,vlocal,q.map (fun x=>x.ID),f,(i:Int),x,())) q
  (fun _ h f=>match zs9 branch vlocal x h f with | .inl f=>.inl f | .inr v=>.inr (.inr (v,()))) (fun f=>.inl (f,())) (by rw[za2];omega)
  (fun f=>by
   have d:decide ((q.length:Int)<((q.map (fun x=>x.ID)).length:Int))=false:=by rw[decide_eq_false_iff_not,List.length_map];omega
   simp only[znu,d,cond_false])
  (fun i y f hx=>by
   have hlt:=(List.getElem?_eq_some_iff.1 hx).1
   have d:decide ((i:Int)<((q.map (fun x=>x.ID)).length:Int))=true:=by rw[decide_eq_true_eq,List.length_map];omega
   have gx:(q.map (fun x=>x.ID))[i]?=some y.ID:=by rw[List.getElem?_map,hx];rfl
   simp -zeta only[znu,d,zah,gx,cond_true,k_or,za7,z8o (show l.length<1000000000 by omega),zxe hsort (hm y (List.mem_of_getElem? hx)),zam (show i<9223372036854775807 by omega)]
   unfold zs9
   dsimp only
   cases (!(y.Item==0)&&!(y.Item==x.ID)) with
   |true=>rfl
   |false=>
    cases (vlocal&&y.Pickup==branch) with
    |true=>rfl
    |false=>cases f==0<;>rfl) 0
 obtain ⟨r,r1,r2⟩:=z1r (branch:=branch) (vlocal:=vlocal) (x:=x) (fun f=>(.inl (f,()):(Int×Unit)⊕(Int×Unit))) (fun v=>.inr (v,())) (fun _=>trivial) q 0 0
 rw[r2]at h
 simp only
 rw[show zad znu (l,branch,vlocal,q.map (fun x=>x.ID),0,0,x,())=_ from h,←r1]
 cases r<;>rfl
theorem zge {c:Circ} (h:FitP c) {o:Hold} (ho:o∈c.Holds):rng 0 9 o.Rank=true∧o.ID≠0:=by
 have:=z0y h.holds ho
 unfold zb0 at this
 have:=zdp this (by decide)
 simp only[Bool.or_eq_false_iff,decide_eq_false_iff_not]at this
 obtain ⟨⟨hx,h1⟩,h2⟩:=this
 refine ⟨by rw[zb7];omega,?_⟩
 have:=hx.1.1.1.1.1.1.1.1.1.1
 omega
theorem zaua {c:Circ} (hs:SmallP c) (h:FitP c) {x:Item} {branch day:Int} {vlocal:Bool}:qbh c.Holds x branch day vlocal=qby c.Holds x branch day vlocal:=by
 have h1:=hs.holds
 have h2:=List.length_filter_le (zcj x.Record day) c.Holds
 rw[za1t (by omega) (by omega) (fun o ho=>(zge h ho).1),zali (by omega) (zem h.holds)]
 congr 1
 exact z8i (fun o ho=>(zge h (List.mem_filter.1 (zhq ho)).1).2) (fun _=>rfl)
end Go.Proofs.YtdahfgialanmpaaGreatDoor
